-- A printed text of this session (wip/x/xprint.py).
import Derived.Test.YtnpdmleglcbobaaXFnLogx0
import Derived.Test.YtnpdmleglcbobaaXFnLogx5
import Derived.Test.YtnpdmleglcbobaaXFnLogx10
import Derived.Test.YtnpdmleglcbobaaXFnLogx12
import Derived.Test.YtnpdmleglcbobaaXFnLogx13
namespace Go.Proofs.Ytnpdmleglcbobaa.XFnLog
open Go.RowKit Go.Proofs.YtnpdmleglcbobaaW.PrintWords Go.Proofs.YtnpdmleglcbobaaW.PrintLast Go.Proofs.YtnpdmleglcbobaaW.PrintMore
attribute [local go_sem] max2_int min2_int max_two min_two max_three min_three max_four min_four   -- for this text's walks alone
set_option linter.unusedVariables false
set_option linter.unusedSimpArgs false

/-! ### F28: function 27 -/
def F28.f (k : Nat) (l0 : List Int) : Option (Int × Int × ByteArray × ByteArray × (List (S66))) := (F46.f l0).bind fun bt650 => ((F1.f bt650.1 bt650.2.1 bt650.2.2 300).bind fun bt654 => ((F37.f k bt650.1 bt654.2.1 bt654.2.2 (wrap64 (1 + bt654.1))).bind fun bt657 => ((F1.f bt650.1 bt657.2.2.2.2.2.1 bt657.2.2.2.2.2.2 12).bind fun bt667 => (if bt667.1 = 0 then ((F38.f k bt650.1 bt667.2.1 bt667.2.2).bind fun bt670 => (some (bt657.1, bt670.1, bt657.2.2.1, bt657.2.2.2.1, bt657.2.2.2.2.1))) else (if bt667.1 = 1 then ((F1.f bt650.1 bt667.2.1 bt667.2.2 5).bind fun bt673 => (some (wrap64 (bt673.1 - 1), bt657.2.1, bt657.2.2.1, bt657.2.2.2.1, bt657.2.2.2.2.1))) else (if bt667.1 = 2 then ((some (([(⟨#[]⟩ : ByteArray), (⟨#[120]⟩ : ByteArray), (⟨#[97, 32, 98]⟩ : ByteArray)] : List ByteArray) : List ByteArray)).bind fun y676 => ((F1.f bt650.1 bt667.2.1 bt667.2.2 3).bind fun bt679 => (if 0 ≤ bt679.1 then (if bt679.1 < (y676.length : Int) then (some (bt657.1, bt657.2.1, rdOf ByteArray.empty y676 bt679.1, bt657.2.2.2.1, bt657.2.2.2.2.1)) else (none)) else (none)))) else (if bt667.1 = 3 then ((F33.f k bt650.1 bt667.2.1 bt667.2.2 bt657.2.2.2.1 bt657.2.2.2.2.1).bind fun bt683 => (some (bt657.1, bt657.2.1, bt657.2.2.1, bt683.1, bt683.2.1))) else (some (bt657.1, bt657.2.1, bt657.2.2.1, bt657.2.2.2.1, bt657.2.2.2.2.1)))))))))
theorem F28.mono : ∀ a0 k, LeO (F28.f k a0) (F28.f (k + 1) a0) := by
  intro a0 k
  unfold F28.f
  repeat' with_reducible first | exact F38.mono _ _ _ _ | exact F33.mono _ _ _ _ _ _ | exact F37.mono _ _ _ _ _ | exact LeO.refl _ | exact LeO.none _ | refine LeO.ite ?_ ?_ | refine LeO.bind ?_ (fun _ => ?_)
set_option maxHeartbeats 8000000 in
set_option maxRecDepth 100000 in
theorem F28.calls (k : Nat) (A0 : Option Addr) (c0 : Nat) (l0 : List Int) (r1 : Int) (r2 : Int) (r3 : ByteArray) (r4 : ByteArray) (r5 : List (S66)) (w : World) (hr0 : Kd.C (Kd.int .u8) w A0 l0.length l0) (hc0 : l0.length ≤ c0) (h : F28.f k l0 = some (r1, r2, r3, r4, r5)) :
    Calls Try.prog 27 #[.slice A0 l0.length c0] w fun e w' => ∃ v4_ : Value, e = .returned (.agg #[.int .i64 r1, .int .i64 r2, .string r3, .string r4, v4_]) ∧ Kd.N k66 66 w' w.heap.size (fun k_ => (w.heap.size ≤ k_)) v4_ r5 ∧ Below w.heap.size w w' := by
  have hu47 := Try.underlying47
  have hu31 := Try.underlying31
  have HR0 := zm hr0
  have HC0 := zm hc0
  clear hr0 hc0
  have HB := zm (Below.refl w.heap.size w)
  have H := h
  unfold F28.f at H
  clear h
  replace H := zbi H
  obtain ⟨⟨t650, t651, t652⟩, A2, H⟩ := H
  try dsimp only at H
  replace H := zbi H
  obtain ⟨⟨t654, t655, t656⟩, A3, H⟩ := H
  try dsimp only at H
  replace H := zbi H
  obtain ⟨⟨t657, t658, t659, t660, t661, t664, t665⟩, A4, H⟩ := H
  try dsimp only at H
  replace H := zbi H
  obtain ⟨⟨t667, t668, t669⟩, A5, H⟩ := H
  try dsimp only at H
  go_enter Try.func27, Try.ntmps27
  go_upto_if 14 with (first | ((with_reducible refine gate_dst (N := 2) rfl ?_); refine box_event (by rfl) (N := 2) (by rfl) (cs := #[.int .i64 0, .int .i64 0, .string (⟨#[]⟩ : ByteArray), .string (⟨#[]⟩ : ByteArray), .slice none 0 0]) (t := 47) zgs ?_; intro gb649 hg w61 hbox hb; have BK649 := zm (hbox); have GW649 := zge hg (below_size (zh HB)); have GE649 := zge hg (below_size (zh HB)); replace HB := zm (below_step (zh HB) hb); clear hb hbox hg) | ((with_reducible refine gate_callee (f := 53) rfl ?_); refine zgl 6 Try.func53 #[.slice A0 l0.length c0] ?_; (with_reducible refine (F46.calls _ _ l0 t650 t651 t652 w _ ?side1 ?side2 ?side3 A2.out).mono ?_); (case side1 => exact zj106 HB); (case side2 => exact HR0.out); (case side3 => exact HC0.out); rintro e w62 ⟨g653, rfl, hi, hb, hb2⟩; refine ⟨_, rfl, ?_⟩; replace HB := zm (hb); have HI653 := zm (hi); have NB653_649 := zm (IsS106.ne_blk hi (blk_below (zb BK649) hb2) (by decide)); have NB649_653 := zm (Ne.symm (IsS106.ne_blk hi (blk_below (zb BK649) hb2) (by decide))); replace BK649 := zm (blk_below (zb BK649) hb2); (try clear hb hb2 hi)) | ((with_reducible refine gate_callee (f := 55) rfl ?_); refine zgl 9 Try.func55 #[.pointer (some ⟨g653, 0, none⟩), .int .i64 300] ?_; refine (F1.calls g653 t650 t651 t652 300 t654 t655 t656 w _ (zi106 HI653) (zj106 HB) A3.out).mono ?_; rintro e w63 ⟨rfl, hi, hb, hk⟩; refine ⟨_, rfl, ?_⟩; replace BK649 := zkb BK649 NB649_653 hk; replace HB := zm (hb); replace HI653 := zm (hi); (try clear hb hk hi)) | ((with_reducible refine gate_callee (f := 54) rfl ?_); refine zgl 11 Try.func54 #[.pointer (some ⟨g653, 0, none⟩), .int .i64 (wrap64 (1 + t654))] ?_; refine (F37.calls k g653 t650 t655 t656 (wrap64 (1 + t654)) t657 t658 t659 t660 t661 t664 t665 w _ (zi106 HI653) (zj106 HB) A4.out).mono ?_; rintro e w64 ⟨v662, rfl, ho0, hi, hb, hk⟩; refine ⟨_, rfl, ?_⟩; have HO663 := zm (Kd.S_lower (Kd.S_mono (ok' := fun k_ => (w.heap.size ≤ k_) ∧ k_ ≠ gb649 ∧ k_ ≠ g653) ho0 (fun k_ hk_ => ⟨(Nat.le_trans (below_size (zj106 HB)) hk_), (Kd.freshB (zb BK649) k_ hk_), (IsS106.fresh (zi106 HI653) k_ hk_)⟩)) (below_size (zj106 HB))); replace BK649 := zkb BK649 NB649_653 hk; replace HB := zm (hb); replace HI653 := zm (hi); (try clear hb ho0 hk hi)) | ((with_reducible refine gate_dst (N := 4) rfl ?_); refine box_event (by rfl) (N := 4) (by rfl) (cs := #[.int .i64 0, .int .i64 0, .string (⟨#[]⟩ : ByteArray), .string (⟨#[]⟩ : ByteArray), .slice none 0 0]) (t := 47) zgs ?_; intro gb666 hg w65 hbox hb; replace HO663 := zm (Kd.S_below (Kd.S_elderB (zs HO663) gb666 (Nat.le_of_eq hg.symm)) hb); have BK666 := zm (hbox); have GW666 := zge hg (below_size (zj106 HB)); have GE666 := zge hg (below_size (zj106 HB)); replace HB := zm (below_step (zj106 HB) hb); obtain ⟨NB649_666, NB666_649⟩ := znn hg (blk_lt (zb BK649)); replace BK649 := zbb BK649 hb; obtain ⟨NB653_666, NB666_653⟩ := znn hg (IsS106.lt (show IsS106 w _ g653 t650 t664 t665 from zi106 HI653)); replace HI653 := zm (IsS106.below (zi106 HI653) hb); clear hb hbox hg; obtain ⟨_, _⟩ := zne NB666_649; obtain ⟨_, _⟩ := zne NB666_653; obtain ⟨⟨_, _, _, _, _⟩, _, _, _, _, _⟩ := zc5 BK666; obtain ⟨Ao69, co69, eo69⟩ := Kd.S_slice HO663.out; subst eo69) | ((with_reducible refine gate_callee (f := 55) rfl ?_); refine zgl 13 Try.func55 #[.pointer (some ⟨g653, 0, none⟩), .int .i64 12] ?_; refine (F1.calls g653 t650 t664 t665 12 t667 t668 t669 w _ (zi106 HI653) (zj106 HB) A5.out).mono ?_; rintro e w70 ⟨rfl, hi, hb, hk⟩; refine ⟨_, rfl, ?_⟩; replace BK649 := zm (KeepBut.blk hk (g' := gb649) (o := .cells #[.int .i64 0, .int .i64 0, .string (⟨#[]⟩ : ByteArray), .string (⟨#[]⟩ : ByteArray), .slice none 0 0] 47 (0, 0)) (zp BK649) NB649_653.out (by simp)); replace HO663 := zm (Kd.S_mono (Kd.S_keep (Kd.S_mono (ok := fun k_ => ((((w.heap.size ≤ k_)) ∧ (k_ ≠ gb649 ∧ k_ ≠ g653)) ∧ k_ ≠ gb666)) (by (with_reducible repeat (first | apply Kd.S_alloc | apply Kd.S_drewN | apply Kd.S_drew)); exact (Kd.S_mono (zfS gb666 4 (zfS gb666 3 (zfS gb666 2 (zfS gb666 1 (zfS gb666 0 (Kd.S_mono HO663.out (fun k_ hk => (⟨hk, hk.2⟩ : _ ∧ k_ ≠ gb666))) (.int .i64 t657)) (.int .i64 t658)) (.string t659)) (.string t660)) (.slice Ao69 t661.length co69)) (fun _ h_ => h_.1))) (fun k_ hk_ => (⟨hk_, hk_.1.2.2⟩ : _ ∧ k_ ≠ g653))) hk (fun _ h => h.2)) (fun _ h => h.1)); replace BK666 := zm (KeepBut.blk hk (g' := gb666) (o := .cells #[.int .i64 t657, .int .i64 t658, .string t659, .string t660, .slice Ao69 t661.length co69] 47 (0, 0)) (zp BK666) NB666_653.out (by simp)); replace HB := zm (hb); replace HI653 := zm (hi); (try clear hb hk hi)))
  (try simp only [Act.put, List.setIfInBounds_toArray, List.set_cons_zero, List.set_cons_succ])
  by_cases c6 : t667 = 0
  · rw [if_pos c6] at H
    have c6b0 := z1 c6
    have c6b1 := z3 c6
    clear c6
    replace H := zbi H
    obtain ⟨⟨t670, t671, t672⟩, A7, H⟩ := H
    try dsimp only at H
    simp only [Option.some.injEq, Prod.mk.injEq] at H
    obtain ⟨rfl, rfl, rfl, rfl, rfl⟩ := H
    (first | rw [c6b0] | (simp only [i64_w, i32_w]; rw [c6b0]) | skip)
    replace HO663 := zm (Kd.S_N HO663.out)
    go_wp2_with (first | ((with_reducible refine gate_callee (f := 56) rfl ?_); refine zgl 17 Try.func56 #[.pointer (some ⟨g653, 0, none⟩)] ?_; refine (F38.calls k g653 t650 t668 t669 t670 t671 t672 w _ (zi106 HI653) (zj106 HB) A7.out).mono ?_; rintro e w18 ⟨rfl, hi, hb, hk⟩; refine ⟨_, rfl, ?_⟩; replace BK649 := zkb BK649 NB649_653 hk; replace HO663 := zm (Kd.N_mono (Kd.N_keep (Kd.N_mono (ok := fun k_ => ((((w.heap.size ≤ k_)) ∧ (k_ ≠ gb649 ∧ k_ ≠ g653)) ∧ k_ ≠ gb666)) (zn HO663) (fun k_ hk_ => (⟨hk_, hk_.1.2.2⟩ : _ ∧ k_ ≠ g653))) hk (fun _ h => h.2)) (fun _ h => h.1)); replace BK666 := zkb BK666 NB666_653 hk; replace HB := zm (hb); replace HI653 := zm (hi); (try clear hb hk hi); obtain ⟨⟨_, _, _, _, _⟩, _, _, _, _, _⟩ := zc5 BK666; obtain ⟨_, _⟩ := zne NB649_653; obtain ⟨⟨_, _, _, _, _⟩, _, _, _, _, _⟩ := zc5 BK649))
    refine bodyPost_ret (results_cell_row rfl _ _ gb649 47 #[.int .i64 t657, .int .i64 t670, .string t659, .string t660, .slice Ao69 t661.length co69] (0, 0) _ rfl (zp BK649) Try.underlying47 rfl (by kernel_rfl)) rfl ?_
    exact ⟨_, zre, zxN (Kd.N_mono (zfN gb649 4 (zfN gb649 3 (zfN gb649 2 (zfN gb649 1 (zfN gb649 0 (Kd.N_far (p := ⟨gb666, 1, none⟩) (Kd.N_mono (Kd.N_mono HO663.out (fun k_ hk => (⟨hk, hk.2⟩ : _ ∧ k_ ≠ gb666))) (fun k_ hk => (⟨hk, hk.1.1.2.1⟩ : _ ∧ k_ ≠ gb649))) (fun _ hk => hk.1.2) (.int .i64 t670)) (.int .i64 t657)) (.int .i64 t670)) (.string t659)) (.string t660)) (.slice Ao69 t661.length co69)) (fun _ hk => hk.1.1.1.1)), zj106 HB⟩
  · rw [if_neg c6] at H
    have c6b0 := z2 c6
    have c6b1 := z4 c6
    by_cases c22 : t667 = 1
    · rw [if_pos c22] at H
      have c22b0 := z1 c22
      have c22b1 := z3 c22
      clear c22
      replace H := zbi H
      obtain ⟨⟨t673, t674, t675⟩, A23, H⟩ := H
      try dsimp only at H
      simp only [Option.some.injEq, Prod.mk.injEq] at H
      obtain ⟨rfl, rfl, rfl, rfl, rfl⟩ := H
      (first | rw [c6b0] | (simp only [i64_w, i32_w]; rw [c6b0]) | skip)
      replace HO663 := zm (Kd.S_N HO663.out)
      go_wp2_with (first | ((with_reducible refine gate_callee (f := 55) rfl ?_); refine zgl 22 Try.func55 #[.pointer (some ⟨g653, 0, none⟩), .int .i64 5] ?_; refine (F1.calls g653 t650 t668 t669 5 t673 t674 t675 w _ (zi106 HI653) (zj106 HB) A23.out).mono ?_; rintro e w34 ⟨rfl, hi, hb, hk⟩; refine ⟨_, rfl, ?_⟩; replace BK649 := zkb BK649 NB649_653 hk; replace HO663 := zm (Kd.N_mono (Kd.N_keep (Kd.N_mono (ok := fun k_ => ((((w.heap.size ≤ k_)) ∧ (k_ ≠ gb649 ∧ k_ ≠ g653)) ∧ k_ ≠ gb666)) (zn HO663) (fun k_ hk_ => (⟨hk_, hk_.1.2.2⟩ : _ ∧ k_ ≠ g653))) hk (fun _ h => h.2)) (fun _ h => h.1)); replace BK666 := zkb BK666 NB666_653 hk; replace HB := zm (hb); replace HI653 := zm (hi); (try clear hb hk hi); obtain ⟨⟨_, _, _, _, _⟩, _, _, _, _, _⟩ := zc5 BK666; obtain ⟨_, _⟩ := zne NB649_653; obtain ⟨⟨_, _, _, _, _⟩, _, _, _, _, _⟩ := zc5 BK649))
      refine bodyPost_ret (results_cell_row rfl _ _ gb649 47 #[.int .i64 (wrap64 (t673 - 1)), .int .i64 t658, .string t659, .string t660, .slice Ao69 t661.length co69] (0, 0) _ rfl (zp BK649) Try.underlying47 rfl (by kernel_rfl)) rfl ?_
      exact ⟨_, zre, zxN (Kd.N_mono (zfN gb649 4 (zfN gb649 3 (zfN gb649 2 (zfN gb649 1 (zfN gb649 0 (Kd.N_far (p := ⟨gb666, 0, none⟩) (Kd.N_mono (Kd.N_mono HO663.out (fun k_ hk => (⟨hk, hk.2⟩ : _ ∧ k_ ≠ gb666))) (fun k_ hk => (⟨hk, hk.1.1.2.1⟩ : _ ∧ k_ ≠ gb649))) (fun _ hk => hk.1.2) (.int .i64 (wrap64 (t673 - 1)))) (.int .i64 (wrap64 (t673 - 1)))) (.int .i64 t658)) (.string t659)) (.string t660)) (.slice Ao69 t661.length co69)) (fun _ hk => hk.1.1.1.1)), zj106 HB⟩
    · rw [if_neg c22] at H
      have c22b0 := z2 c22
      have c22b1 := z4 c22
      by_cases c38 : t667 = 2
      · rw [if_pos c38] at H
        have c38b0 := z1 c38
        have c38b1 := z3 c38
        clear c38
        obtain ⟨y676, hy676⟩ : ∃ y_ : List ByteArray, y_ = (([(⟨#[]⟩ : ByteArray), (⟨#[120]⟩ : ByteArray), (⟨#[97, 32, 98]⟩ : ByteArray)] : List ByteArray)) := ⟨_, rfl⟩
        replace H : ((F1.f t650 t668 t669 3).bind fun bt679 => (if 0 ≤ bt679.1 then (if bt679.1 < (y676.length : Int) then (some (t657, t658, rdOf ByteArray.empty y676 bt679.1, t660, t661)) else (none)) else (none))) = some (r1, r2, r3, r4, r5) := zby hy676 H
        have Ny676 := zm hy676
        clear hy676
        replace H := zbi H
        obtain ⟨⟨t679, t680, t681⟩, A39, H⟩ := H
        try dsimp only at H
        by_cases c40 : 0 ≤ t679
        · rw [if_pos c40] at H
          have c40b0 := decide_eq_true c40
          clear c40
          by_cases c41 : t679 < (y676.length : Int)
          · rw [if_pos c41] at H
            have c41b0 := decide_eq_true c41
            clear c41
            simp only [Option.some.injEq, Prod.mk.injEq] at H
            obtain ⟨rfl, rfl, rfl, rfl, rfl⟩ := H
            (first | rw [c6b0] | (simp only [i64_w, i32_w]; rw [c6b0]) | skip)
            replace HO663 := zm (Kd.S_N HO663.out)
            go_wp2_with (first | ((with_reducible refine gate_dst (N := 27) rfl ?_); refine Kd.R_lit Kd.string _ 9 ?hg (N := 27) ?hd (xs := ([(⟨#[]⟩ : ByteArray), (⟨#[120]⟩ : ByteArray), (⟨#[97, 32, 98]⟩ : ByteArray)] : List ByteArray)) (inner := [.string (⟨#[]⟩ : ByteArray), .string (⟨#[120]⟩ : ByteArray), .string (⟨#[97, 32, 98]⟩ : ByteArray)]) (ok := fun _ => True) (okp := fun _ => True) ?hr ?hp (fun _ hk => hk) trivial (Below.refl _ _) (Nat.le_refl _) (by simp) ?_; (case hd => rfl); (case hg => rfl); (case hr => first | (go_simp; done) | (go_simp; rfl)); (case hp => exact (Reps.one (show Kd.M Kd.string _ _ _ (⟨#[]⟩ : ByteArray) [.string (⟨#[]⟩ : ByteArray)] from rfl) (Reps.one (show Kd.M Kd.string _ _ _ (⟨#[120]⟩ : ByteArray) [.string (⟨#[120]⟩ : ByteArray)] from rfl) (Reps.one (show Kd.M Kd.string _ _ _ (⟨#[97, 32, 98]⟩ : ByteArray) [.string (⟨#[97, 32, 98]⟩ : ByteArray)] from rfl) (Reps.none _ _))))); intro v677 w52 ho53 hb hg_ hnew_; clear hg_ hnew_; (first | rw [← Ny676.out] at ho53 | (simp only [Int.reduceToNat] at ho53; rw [← Ny676.out] at ho53)); replace HO663 := zm (Kd.N_elder' (zn HO663) (Kd.R_base ho53) hb); have HO678 := zm (Kd.R_lower (Kd.R_newM (M := fun k_ => (w.heap.size ≤ k_)) ho53 (below_size (zj106 HB)) (fun k_ h_ => h_)) (below_size (zj106 HB))); replace BK649 := zbb BK649 hb; replace HI653 := zm (IsS106.below (zi106 HI653) hb); replace BK666 := zbb BK666 hb; replace HB := zm (below_step (zj106 HB) hb); clear hb ho53) | ((with_reducible refine gate_callee (f := 55) rfl ?_); refine zgl 29 Try.func55 #[.pointer (some ⟨g653, 0, none⟩), .int .i64 3] ?_; refine (F1.calls g653 t650 t668 t669 3 t679 t680 t681 w _ (zi106 HI653) (zj106 HB) A39.out).mono ?_; rintro e w54 ⟨rfl, hi, hb, hk⟩; refine ⟨_, rfl, ?_⟩; replace BK649 := zkb BK649 NB649_653 hk; replace HO663 := zm (Kd.N_mono (Kd.N_keep (Kd.N_mono (ok := fun k_ => (((((w.heap.size ≤ k_)) ∧ (k_ ≠ gb649 ∧ k_ ≠ g653)) ∧ k_ ≠ gb666) ∧ some k_ ≠ (v677 : Value).ownBlock)) (zn HO663) (fun k_ hk_ => (⟨hk_, hk_.1.1.2.2⟩ : _ ∧ k_ ≠ g653))) hk (fun _ h => h.2)) (fun _ h => h.1)); replace BK666 := zkb BK666 NB666_653 hk; replace HO678 := zm (Kd.R_mono (Kd.R_keep (IsS106.apart (show IsS106 w _ g653 t650 t668 t669 from zi106 HI653) (zr HO678) (by decide)) hk (fun _ h => h.2)) (fun _ h => h.1)); replace HB := zm (hb); replace HI653 := zm (hi); (try clear hb hk hi); obtain ⟨Ao55, co55, eo55⟩ := Kd.R_slice HO678.out; subst eo55; have p682 : 0 ≤ (t679 : Int) := of_decide_eq_true zas; have q682 : t679 < (y676.length : Int) := of_decide_eq_true zas; obtain ⟨ad682, e682, hx682_0⟩ := Kd.at_string (Kd.R_reads' HO678.out).2.2 t679 p682 q682; cases e682; replace p682 := eq_true p682; replace q682 := eq_true q682; obtain ⟨⟨_, _, _, _, _⟩, _, _, _, _, _⟩ := zc5 BK666; obtain ⟨_, _⟩ := zne NB649_653; obtain ⟨⟨_, _, _, _, _⟩, _, _, _, _, _⟩ := zc5 BK649))
            refine bodyPost_ret (results_cell_row rfl _ _ gb649 47 #[.int .i64 t657, .int .i64 t658, .string (rdOf ByteArray.empty y676 t679), .string t660, .slice Ao69 t661.length co69] (0, 0) _ rfl (zp BK649) Try.underlying47 rfl (by kernel_rfl)) rfl ?_
            exact ⟨_, zre, zxN (Kd.N_mono (zfN gb649 4 (zfN gb649 3 (zfN gb649 2 (zfN gb649 1 (zfN gb649 0 (Kd.N_far (p := ⟨gb666, 2, none⟩) (Kd.N_mono (Kd.N_mono HO663.out (fun k_ hk => (⟨hk, hk.1.2⟩ : _ ∧ k_ ≠ gb666))) (fun k_ hk => (⟨hk, hk.1.1.1.2.1⟩ : _ ∧ k_ ≠ gb649))) (fun _ hk => hk.1.2) (.string (rdOf ByteArray.empty y676 t679))) (.int .i64 t657)) (.int .i64 t658)) (.string (rdOf ByteArray.empty y676 t679))) (.string t660)) (.slice Ao69 t661.length co69)) (fun _ hk => hk.1.1.1.1.1)), zj106 HB⟩
          · rw [if_neg c41] at H
            exact absurd H (by simp)
        · rw [if_neg c40] at H
          exact absurd H (by simp)
      · rw [if_neg c38] at H
        have c38b0 := z2 c38
        have c38b1 := z4 c38
        by_cases c59 : t667 = 3
        · rw [if_pos c59] at H
          have c59b0 := z1 c59
          have c59b1 := z3 c59
          clear c59
          replace H := zbi H
          obtain ⟨⟨t683, t684, t687, t688⟩, A60, H⟩ := H
          try dsimp only at H
          simp only [Option.some.injEq, Prod.mk.injEq] at H
          obtain ⟨rfl, rfl, rfl, rfl, rfl⟩ := H
          (first | rw [c6b0] | (simp only [i64_w, i32_w]; rw [c6b0]) | skip)
          obtain ⟨⟨_, _, _, _, _⟩, _, _, _, _, _⟩ := zc5 BK666
          go_wp2_with (first | ((with_reducible refine gate_callee (f := 57) rfl ?_); refine zgl 38 Try.func57 #[.pointer (some ⟨g653, 0, none⟩), .agg #[.string t660, .slice Ao69 t661.length co69]] ?_; (with_reducible refine (F33.calls k g653 t650 t668 t669 t660 _ t661 t683 t684 t687 t688 w _ gb649 #[.int .i64 0, .int .i64 0, .string (⟨#[]⟩ : ByteArray), .string (⟨#[]⟩ : ByteArray), .slice none 0 0] ?sidea gb666 #[.int .i64 t657, .int .i64 t658, .string t659, .string t660, .slice Ao69 t661.length co69] ?sideb ?side1 ?side2 ?side3 A60.out).mono ?_); (case side1 => exact zi106 HI653); (case side2 => exact zj106 HB); (case sidea => exact (zb BK649)); (case sideb => exact (zb BK666)); (case side3 => exact Kd.S_mono (zs HO663) (fun k_ hk_ => ⟨hk_.1.2.2, hk_.1.2.1, hk_.2⟩)); rintro e w72 ⟨v685, rfl, ho0, hi, hb, hk, hx9_, hy9_⟩; refine ⟨_, rfl, ?_⟩; have n0_ := zm hx9_; have n2_ := zm hy9_; have n3_ := zm (Kd.N_mono (ok' := fun k_ => (w.heap.size ≤ k_) ∧ True ∧ k_ ≠ gb649 ∧ k_ ≠ gb666 ∧ True) ho0 (fun k_ hk_ => ⟨hk_.1, trivial, hk_.2.1, hk_.2.2, trivial⟩)); have n4_ := zm (hb); have n5_ := zm (hi); clear BK649; clear HO663; clear BK666; clear HB; clear HI653; have BK649 := n0_; have BK666 := n2_; have HO686 := n3_; have HB := n4_; have HI653 := n5_; clear n0_ n2_ n3_ n4_ n5_; clear hx9_ hy9_; (try clear hb ho0 hk hi); obtain ⟨⟨_, _, _, _, _⟩, _, _, _, _, _⟩ := zc5 BK666; obtain ⟨Ao74, co74, eo74⟩ := Kd.N_slice HO686.out; subst eo74; obtain ⟨_, _⟩ := zne NB649_653; obtain ⟨⟨_, _, _, _, _⟩, _, _, _, _, _⟩ := zc5 BK649))
          refine bodyPost_ret (results_cell_row rfl _ _ gb649 47 #[.int .i64 t657, .int .i64 t658, .string t659, .string t683, .slice Ao74 t684.length co74] (0, 0) _ rfl (zp BK649) Try.underlying47 rfl (by kernel_rfl)) rfl ?_
          exact ⟨_, zre, zxN (Kd.N_mono (zfN gb649 4 (zfN gb649 3 (zfN gb649 2 (zfN gb649 1 (zfN gb649 0 (Kd.N_far (p := ⟨gb666, 4, none⟩) (Kd.N_far (p := ⟨gb666, 3, none⟩) (Kd.N_mono (Kd.N_mono HO686.out (fun k_ hk => (⟨hk, hk.2.2.2.1⟩ : _ ∧ k_ ≠ gb666))) (fun k_ hk => (⟨hk, hk.1.2.2.1⟩ : _ ∧ k_ ≠ gb649))) (fun _ hk => hk.1.2) (.string t683)) (fun _ hk => hk.1.2) (.slice Ao74 t684.length co74)) (.int .i64 t657)) (.int .i64 t658)) (.string t659)) (.string t683)) (.slice Ao74 t684.length co74)) (fun _ hk => hk.1.1.1)), zj106 HB⟩
        · rw [if_neg c59] at H
          have c59b0 := z2 c59
          have c59b1 := z4 c59
          simp only [Option.some.injEq, Prod.mk.injEq] at H
          obtain ⟨rfl, rfl, rfl, rfl, rfl⟩ := H
          (first | rw [c6b0] | (simp only [i64_w, i32_w]; rw [c6b0]) | skip)
          replace HO663 := zm (Kd.S_N HO663.out)
          obtain ⟨⟨_, _, _, _, _⟩, _, _, _, _, _⟩ := zc5 BK666
          obtain ⟨_, _⟩ := zne NB649_653
          obtain ⟨⟨_, _, _, _, _⟩, _, _, _, _, _⟩ := zc5 BK649
          go_wp2
          refine bodyPost_ret (results_cell_row rfl _ _ gb649 47 #[.int .i64 t657, .int .i64 t658, .string t659, .string t660, .slice Ao69 t661.length co69] (0, 0) _ rfl (zp BK649) Try.underlying47 rfl (by kernel_rfl)) rfl ?_
          exact ⟨_, zre, zxN (Kd.N_mono (zfN gb649 4 (zfN gb649 3 (zfN gb649 2 (zfN gb649 1 (zfN gb649 0 (Kd.N_mono HO663.out (fun k_ hk => (⟨hk, hk.1.2.1⟩ : _ ∧ k_ ≠ gb649))) (.int .i64 t657)) (.int .i64 t658)) (.string t659)) (.string t660)) (.slice Ao69 t661.length co69)) (fun _ hk => hk.1.1.1)), zj106 HB⟩

/-! ### F9: function 87 -/
mutual
def F9.l0 : Nat → List Int → Int → Int → Int → Option (Int × Int × Int)
  | 0, _, _, _, _ => none
  | k + 1, x0, x1, x7, x8 => if x8 < 9 then (F9.j1 k x0 x1 x7 x8 (decide ((wrap64 (x1 + x8)) < (x0.length : Int)))) else (F9.j1 k x0 x1 x7 x8 false)
def F9.j1 : Nat → List Int → Int → Int → Int → Bool → Option (Int × Int × Int)
  | 0, _, _, _, _, _ => none
  | k + 1, x0, x1, x7, x8, x27 => if x27 = true then (if 0 ≤ (wrap64 (x1 + x8)) then (if (wrap64 (x1 + x8)) < (x0.length : Int) then (if 0 ≤ (wrap64 (7 * x8)) then (if (rd x0 (wrap64 (x1 + x8))) < 128 then (if (Go.bits .or .i64 x7 (shl .i64 (wrap64 (Go.bits .and .u8 (rd x0 (wrap64 (x1 + x8))) 127)) (wrap64 (7 * x8)))) > 4611686018427387903 then (some (0, 0, 3)) else (if (Go.bits .or .i64 x7 (shl .i64 (wrap64 (Go.bits .and .u8 (rd x0 (wrap64 (x1 + x8))) 127)) (wrap64 (7 * x8)))) < 0 then (some (0, 0, 3)) else (if (rd x0 (wrap64 (x1 + x8))) = 0 then (if x8 > 0 then (some (0, 0, 3)) else (some (Go.bits .or .i64 x7 (shl .i64 (wrap64 (Go.bits .and .u8 (rd x0 (wrap64 (x1 + x8))) 127)) (wrap64 (7 * x8))), wrap64 ((wrap64 (x1 + x8)) + 1), 0))) else (some (Go.bits .or .i64 x7 (shl .i64 (wrap64 (Go.bits .and .u8 (rd x0 (wrap64 (x1 + x8))) 127)) (wrap64 (7 * x8))), wrap64 ((wrap64 (x1 + x8)) + 1), 0))))) else (F9.l0 k x0 x1 (Go.bits .or .i64 x7 (shl .i64 (wrap64 (Go.bits .and .u8 (rd x0 (wrap64 (x1 + x8))) 127)) (wrap64 (7 * x8)))) (wrap64 (x8 + 1)))) else (none)) else (none)) else (none)) else (some (0, 0, 3))
end
def F9.f (k : Nat) (l0 : List Int) (a1 : Int) : Option (Int × Int × Int) := if (l0.length : Int) > 1048576 then (some (0, 0, 2)) else ((F40.f a1 0 (l0.length : Int)).bind fun t689 => (if t689 = true then (F9.l0 k l0 a1 0 0) else (some (0, 0, 1))))
theorem F9.mono_l : ∀ k, (∀ y0 y1 y2 y3, LeO (F9.l0 k y0 y1 y2 y3) (F9.l0 (k + 1) y0 y1 y2 y3)) ∧ (∀ y0 y1 y2 y3 y4, LeO (F9.j1 k y0 y1 y2 y3 y4) (F9.j1 (k + 1) y0 y1 y2 y3 y4))
  | 0 => ⟨fun _ _ _ _ r h => by simp [F9.l0] at h, fun _ _ _ _ _ r h => by simp [F9.j1] at h⟩
  | k + 1 => by
    obtain ⟨ih0, ih1⟩ := F9.mono_l k
    refine ⟨?_, ?_⟩
    all_goals intros
    all_goals first | unfold F9.l0 | unfold F9.j1
    all_goals
      repeat' with_reducible first | exact ih0 _ _ _ _ | exact ih1 _ _ _ _ _ | exact LeO.refl _ | exact LeO.none _ | refine LeO.ite ?_ ?_ | refine LeO.bind ?_ (fun _ => ?_)
theorem F9.mono : ∀ a0 a1 k, LeO (F9.f k a0 a1) (F9.f (k + 1) a0 a1) := by
  intro a0 a1 k
  obtain ⟨ih0, ih1⟩ := F9.mono_l k
  unfold F9.f
  repeat' with_reducible first | exact ih0 _ _ _ _ | exact ih1 _ _ _ _ _ | exact LeO.refl _ | exact LeO.none _ | refine LeO.ite ?_ ?_ | refine LeO.bind ?_ (fun _ => ?_)
set_option maxHeartbeats 8000000 in
set_option maxRecDepth 100000 in
theorem F9.calls (k : Nat) (A0 : Option Addr) (c0 : Nat) (l0 : List Int) (a1 : Int) (r1 : Int) (r2 : Int) (r3 : Int) (w : World) (hr0 : Kd.C (Kd.int .u8) w A0 l0.length l0) (hc0 : l0.length ≤ c0) (h : F9.f k l0 a1 = some (r1, r2, r3)) :
    Calls Try.prog 87 #[.slice A0 l0.length c0, .int .i64 a1] w fun e w' => e = .returned (.tuple #[.int .i64 r1, .int .i64 r2, .int .i64 r3]) ∧ Drawn0 w w' := by
  have HR0 := zm hr0
  have HC0 := zm hc0
  clear hr0 hc0
  have H := h
  unfold F9.f at H
  clear h
  by_cases c3 : (l0.length : Int) > 1048576
  · rw [if_pos c3] at H
    have c3b0 := decide_eq_true c3
    have c3b1 : decide (1048576 < l0.length) = true := decide_eq_true (by omega)
    clear c3
    simp only [Option.some.injEq, Prod.mk.injEq] at H
    obtain ⟨rfl, rfl, rfl⟩ := H
    go_enter Try.func87, Try.ntmps87
    go_wp2
    go_ret3
    exact ⟨zrs, by repeat (first | exact Drawn0.refl _ | apply Drawn0.step)⟩
  · rw [if_neg c3] at H
    have c3b0 := decide_eq_false c3
    have c3b1 : decide (1048576 < l0.length) = false := decide_eq_false (by omega)
    clear c3
    replace H := zbi H
    obtain ⟨t689, A4, H⟩ := H
    try dsimp only at H
    by_cases c5 : t689 = true
    · subst c5
      rw [if_pos rfl] at H
      have H' := zm H
      clear H
      go_enter Try.func87, Try.ntmps87
      go_wp2_with (first | ((with_reducible refine gate_callee (f := 38) rfl ?_); refine zgl 16 Try.func38 #[.int .i64 a1, .int .i64 0, .int .i64 (l0.length : Int)] ?_; (with_reducible refine (F40.calls a1 0 (l0.length : Int) true _ A4.out).mono ?_); rintro e w' ⟨rfl, ⟨nd, rfl⟩⟩; refine ⟨_, rfl, ?_⟩))
      go_loopg [7, 8] k (fun kq v7 v8 w' => ∃ (x7_1 : Int) (x8_1 : Int), v7 = .int .i64 x7_1 ∧ v8 = .int .i64 x8_1 ∧ Aside0 (F9.l0 kq l0 a1 x7_1 x8_1 = some (r1, r2, r3)) ∧ Aside0 (kq ≤ k) ∧ Drawn0 w w')
      case atStart => exact ⟨(0), (0), zrs, zrs, H', ⟨Nat.le_refl _⟩, by repeat (first | exact Drawn0.refl _ | apply Drawn0.step)⟩
      case round =>
        clear H'
        try clear c3
        try clear c3b0
        try clear c3b1
        try clear c5
        obtain ⟨x7_1, x8_1, rfl, rfl, HA, HK1, ⟨m1, rfl⟩⟩ := hrel
        cases gk with
        | zero => exact absurd HA.out (by simp [F9.l0])
        | succ k1 =>
          have H := HA.out
          clear HA
          simp only [F9.l0] at H
          have HC6 := zm H
          clear H
          go_upto_region 7 with (fail)
          go_cut [27] (fun v27 wc => ∃ (kq : Nat) (x27_5 : Bool), v27 = .bool x27_5 ∧ Aside0 (F9.j1 kq l0 a1 x7_1 x8_1 x27_5 = some (r1, r2, r3)) ∧ Aside0 (kq ≤ k1) ∧ Drawn0 w wc)
          case first =>
            have H := HC6.out
            clear HC6
            by_cases c7 : x8_1 < 9
            · rw [if_pos c7] at H
              have c7b0 := decide_eq_true c7
              clear c7
              (first | rw [c7b0] | (simp only [i64_w, i32_w]; rw [c7b0]) | skip)
              have H' := zm H
              clear H
              go_wp2
              go_meet
              case rel => exact ⟨_, (decide ((wrap64 (a1 + x8_1)) < (l0.length : Int))), zrs, H', ⟨by have := HK1.out; first | omega | exact Nat.le_refl _⟩, by repeat (first | exact Drawn0.refl _ | apply Drawn0.step)⟩
            · rw [if_neg c7] at H
              have c7b0 := decide_eq_false c7
              clear c7
              (first | rw [c7b0] | (simp only [i64_w, i32_w]; rw [c7b0]) | skip)
              have H' := zm H
              clear H
              go_wp2
              go_meet
              case rel => exact ⟨_, (false), zrs, H', ⟨by have := HK1.out; first | omega | exact Nat.le_refl _⟩, by repeat (first | exact Drawn0.refl _ | apply Drawn0.step)⟩
          case rest =>
            clear HC6
            try clear c3
            try clear c3b0
            try clear c3b1
            try clear c5
            obtain ⟨kq, x27_5, rfl, HA, HJ5, ⟨mc5, rfl⟩⟩ := hcut
            cases kq with
            | zero => exact absurd HA.out (by simp [F9.j1])
            | succ kj5 =>
              have H := HA.out
              clear HA
              simp only [F9.j1] at H
              by_cases c8 : x27_5 = true
              · subst c8
                rw [if_pos rfl] at H
                obtain ⟨ji9, hji9⟩ : ∃ j_ : Int, (wrap64 (a1 + x8_1)) = j_ := ⟨_, rfl⟩
                replace H : (if 0 ≤ (ji9) then (if (ji9) < (l0.length : Int) then (if 0 ≤ (wrap64 (7 * x8_1)) then (if (rd l0 (ji9)) < 128 then (if (Go.bits .or .i64 x7_1 (shl .i64 (wrap64 (Go.bits .and .u8 (rd l0 (ji9)) 127)) (wrap64 (7 * x8_1)))) > 4611686018427387903 then (some (0, 0, 3)) else (if (Go.bits .or .i64 x7_1 (shl .i64 (wrap64 (Go.bits .and .u8 (rd l0 (ji9)) 127)) (wrap64 (7 * x8_1)))) < 0 then (some (0, 0, 3)) else (if (rd l0 (ji9)) = 0 then (if x8_1 > 0 then (some (0, 0, 3)) else (some (Go.bits .or .i64 x7_1 (shl .i64 (wrap64 (Go.bits .and .u8 (rd l0 (ji9)) 127)) (wrap64 (7 * x8_1))), wrap64 ((ji9) + 1), 0))) else (some (Go.bits .or .i64 x7_1 (shl .i64 (wrap64 (Go.bits .and .u8 (rd l0 (ji9)) 127)) (wrap64 (7 * x8_1))), wrap64 ((ji9) + 1), 0))))) else (F9.l0 kj5 l0 a1 (Go.bits .or .i64 x7_1 (shl .i64 (wrap64 (Go.bits .and .u8 (rd l0 (ji9)) 127)) (wrap64 (7 * x8_1)))) (wrap64 (x8_1 + 1)))) else (none)) else (none)) else (none)) = some (r1, r2, r3) := by first | (rw [hji9] at H; exact H) | (simp only [hji9] at H ⊢; exact H)
                have hji9w : (IntKind.i64.wrap (a1 + x8_1)) = ji9 := (i64_w _).trans hji9
                by_cases c10 : 0 ≤ (ji9)
                · rw [if_pos c10] at H
                  have c10b0 := decide_eq_true c10
                  clear c10
                  by_cases c11 : (ji9) < (l0.length : Int)
                  · rw [if_pos c11] at H
                    have c11b0 := decide_eq_true c11
                    clear c11
                    obtain ⟨ji12, hji12⟩ : ∃ j_ : Int, (wrap64 (7 * x8_1)) = j_ := ⟨_, rfl⟩
                    replace H : (if 0 ≤ (ji12) then (if (rd l0 (ji9)) < 128 then (if (Go.bits .or .i64 x7_1 (shl .i64 (wrap64 (Go.bits .and .u8 (rd l0 (ji9)) 127)) (ji12))) > 4611686018427387903 then (some (0, 0, 3)) else (if (Go.bits .or .i64 x7_1 (shl .i64 (wrap64 (Go.bits .and .u8 (rd l0 (ji9)) 127)) (ji12))) < 0 then (some (0, 0, 3)) else (if (rd l0 (ji9)) = 0 then (if x8_1 > 0 then (some (0, 0, 3)) else (some (Go.bits .or .i64 x7_1 (shl .i64 (wrap64 (Go.bits .and .u8 (rd l0 (ji9)) 127)) (ji12)), wrap64 ((ji9) + 1), 0))) else (some (Go.bits .or .i64 x7_1 (shl .i64 (wrap64 (Go.bits .and .u8 (rd l0 (ji9)) 127)) (ji12)), wrap64 ((ji9) + 1), 0))))) else (F9.l0 kj5 l0 a1 (Go.bits .or .i64 x7_1 (shl .i64 (wrap64 (Go.bits .and .u8 (rd l0 (ji9)) 127)) (ji12))) (wrap64 (x8_1 + 1)))) else (none)) = some (r1, r2, r3) := by first | (rw [hji12] at H; exact H) | (simp only [hji12] at H ⊢; exact H)
                    have hji12w : (IntKind.i64.wrap (7 * x8_1)) = ji12 := (i64_w _).trans hji12
                    by_cases c13 : 0 ≤ (ji12)
                    · rw [if_pos c13] at H
                      have c13b0 := eq_true c13
                      have c13b1 := decide_eq_true c13
                      clear c13
                      obtain ⟨ji14, hji14⟩ : ∃ j_ : Int, (shl .i64 (wrap64 (Go.bits .and .u8 (rd l0 (ji9)) 127)) (ji12)) = j_ := ⟨_, rfl⟩
                      replace H : (if (rd l0 (ji9)) < 128 then (if (Go.bits .or .i64 x7_1 (ji14)) > 4611686018427387903 then (some (0, 0, 3)) else (if (Go.bits .or .i64 x7_1 (ji14)) < 0 then (some (0, 0, 3)) else (if (rd l0 (ji9)) = 0 then (if x8_1 > 0 then (some (0, 0, 3)) else (some (Go.bits .or .i64 x7_1 (ji14), wrap64 ((ji9) + 1), 0))) else (some (Go.bits .or .i64 x7_1 (ji14), wrap64 ((ji9) + 1), 0))))) else (F9.l0 kj5 l0 a1 (Go.bits .or .i64 x7_1 (ji14)) (wrap64 (x8_1 + 1)))) = some (r1, r2, r3) := by first | (rw [hji14] at H; exact H) | (simp only [hji14] at H ⊢; exact H)
                      have hji14_ : (IntKind.i64.wrap ((wrap64 (Go.bits .and .u8 (rd l0 (ji9)) 127)) * 2 ^ min (ji12).toNat 64)) = ji14 := hji14
                      have hji14z : (ji12) ≤ 64 → (IntKind.i64.wrap ((wrap64 (Go.bits .and .u8 (rd l0 (ji9)) 127)) * 2 ^ (ji12).toNat)) = ji14 := shl_small hji14
                      have hji14y : (wrap64 ((wrap64 (Go.bits .and .u8 (rd l0 (ji9)) 127)) * 2 ^ min (ji12).toNat 64)) = ji14 := (i64_w _).symm.trans hji14_
                      have hji14x : (ji12) ≤ 64 → (wrap64 ((wrap64 (Go.bits .and .u8 (rd l0 (ji9)) 127)) * 2 ^ (ji12).toNat)) = ji14 := fun h_ => (i64_w _).symm.trans (hji14z h_)
                      by_cases c15 : (rd l0 (ji9)) < 128
                      · rw [if_pos c15] at H
                        have c15b0 := decide_eq_true c15
                        clear c15
                        by_cases c16 : (Go.bits .or .i64 x7_1 (ji14)) > 4611686018427387903
                        · rw [if_pos c16] at H
                          have c16b0 := decide_eq_true c16
                          clear c16
                          simp only [Option.some.injEq, Prod.mk.injEq] at H
                          obtain ⟨rfl, rfl, rfl⟩ := H
                          have p690 : 0 ≤ ((ji9) : Int) := of_decide_eq_true zas
                          have q690 : (ji9) < (l0.length : Int) := of_decide_eq_true zas
                          obtain ⟨ad690, e690, hx690_0⟩ := Kd.at_int HR0.out (ji9) p690 q690
                          cases e690
                          replace p690 := eq_true p690
                          replace q690 := eq_true q690
                          go_wp2
                          go_ret3
                          exact ⟨by first | rfl | (simp; done) | (simp only [← hji9, ← hji12, ← hji14] <;> (first | rfl | simp)) | (simp [*]; done), by repeat (first | exact Drawn0.refl _ | apply Drawn0.step)⟩
                        · rw [if_neg c16] at H
                          have c16b0 := decide_eq_false c16
                          clear c16
                          by_cases c17 : (Go.bits .or .i64 x7_1 (ji14)) < 0
                          · rw [if_pos c17] at H
                            have c17b0 := decide_eq_true c17
                            clear c17
                            simp only [Option.some.injEq, Prod.mk.injEq] at H
                            obtain ⟨rfl, rfl, rfl⟩ := H
                            have p690 : 0 ≤ ((ji9) : Int) := of_decide_eq_true zas
                            have q690 : (ji9) < (l0.length : Int) := of_decide_eq_true zas
                            obtain ⟨ad690, e690, hx690_0⟩ := Kd.at_int HR0.out (ji9) p690 q690
                            cases e690
                            replace p690 := eq_true p690
                            replace q690 := eq_true q690
                            go_wp2
                            go_ret3
                            exact ⟨by first | rfl | (simp; done) | (simp only [← hji9, ← hji12, ← hji14] <;> (first | rfl | simp)) | (simp [*]; done), by repeat (first | exact Drawn0.refl _ | apply Drawn0.step)⟩
                          · rw [if_neg c17] at H
                            have c17b0 := decide_eq_false c17
                            clear c17
                            by_cases c18 : (rd l0 (ji9)) = 0
                            · rw [if_pos c18] at H
                              have c18b0 := z1 c18
                              have c18b1 := z3 c18
                              clear c18
                              by_cases c19 : x8_1 > 0
                              · rw [if_pos c19] at H
                                have c19b0 := decide_eq_true c19
                                clear c19
                                simp only [Option.some.injEq, Prod.mk.injEq] at H
                                obtain ⟨rfl, rfl, rfl⟩ := H
                                have p690 : 0 ≤ ((ji9) : Int) := of_decide_eq_true zas
                                have q690 : (ji9) < (l0.length : Int) := of_decide_eq_true zas
                                obtain ⟨ad690, e690, hx690_0⟩ := Kd.at_int HR0.out (ji9) p690 q690
                                cases e690
                                replace p690 := eq_true p690
                                replace q690 := eq_true q690
                                go_wp2
                                go_ret3
                                exact ⟨by first | rfl | (simp; done) | (simp only [← hji9, ← hji12, ← hji14] <;> (first | rfl | simp)) | (simp [*]; done), by repeat (first | exact Drawn0.refl _ | apply Drawn0.step)⟩
                              · rw [if_neg c19] at H
                                have c19b0 := decide_eq_false c19
                                clear c19
                                simp only [Option.some.injEq, Prod.mk.injEq] at H
                                obtain ⟨rfl, rfl, rfl⟩ := H
                                have p690 : 0 ≤ ((ji9) : Int) := of_decide_eq_true zas
                                have q690 : (ji9) < (l0.length : Int) := of_decide_eq_true zas
                                obtain ⟨ad690, e690, hx690_0⟩ := Kd.at_int HR0.out (ji9) p690 q690
                                cases e690
                                replace p690 := eq_true p690
                                replace q690 := eq_true q690
                                go_wp2
                                go_ret3
                                exact ⟨by first | rfl | (simp; done) | (simp only [← hji9, ← hji12, ← hji14] <;> (first | rfl | simp)) | (simp [*]; done), by repeat (first | exact Drawn0.refl _ | apply Drawn0.step)⟩
                            · rw [if_neg c18] at H
                              have c18b0 := z2 c18
                              have c18b1 := z4 c18
                              simp only [Option.some.injEq, Prod.mk.injEq] at H
                              obtain ⟨rfl, rfl, rfl⟩ := H
                              have p690 : 0 ≤ ((ji9) : Int) := of_decide_eq_true zas
                              have q690 : (ji9) < (l0.length : Int) := of_decide_eq_true zas
                              obtain ⟨ad690, e690, hx690_0⟩ := Kd.at_int HR0.out (ji9) p690 q690
                              cases e690
                              replace p690 := eq_true p690
                              replace q690 := eq_true q690
                              go_wp2
                              go_ret3
                              exact ⟨by first | rfl | (simp; done) | (simp only [← hji9, ← hji12, ← hji14] <;> (first | rfl | simp)) | (simp [*]; done), by repeat (first | exact Drawn0.refl _ | apply Drawn0.step)⟩
                      · rw [if_neg c15] at H
                        have c15b0 := decide_eq_false c15
                        clear c15
                        have H' := zm H
                        clear H
                        have p690 : 0 ≤ ((ji9) : Int) := of_decide_eq_true zas
                        have q690 : (ji9) < (l0.length : Int) := of_decide_eq_true zas
                        obtain ⟨ad690, e690, hx690_0⟩ := Kd.at_int HR0.out (ji9) p690 q690
                        cases e690
                        replace p690 := eq_true p690
                        replace q690 := eq_true q690
                        go_wp2
                        go_roundg kj5
                        case measure => have := HK1.out; have := HJ5.out; omega
                        case rel => exact ⟨(Go.bits .or .i64 x7_1 (ji14)), (wrap64 (x8_1 + 1)), (by first | rfl | (simp; done) | (simp only [← hji14] <;> (first | rfl | simp)) | (simp [*]; done)), zrs, H', ⟨by have := HK1.out; have := HJ5.out; omega⟩, by repeat (first | exact Drawn0.refl _ | apply Drawn0.step)⟩
                    · rw [if_neg c13] at H
                      exact absurd H (by simp)
                  · rw [if_neg c11] at H
                    exact absurd H (by simp)
                · rw [if_neg c10] at H
                  exact absurd H (by simp)
              · replace c8 := Bool.eq_false_iff.mpr c8
                subst c8
                rw [if_neg (show ¬ (false = true) by decide)] at H
                simp only [Option.some.injEq, Prod.mk.injEq] at H
                obtain ⟨rfl, rfl, rfl⟩ := H
                go_wp2
                go_ret3
                exact ⟨zrs, by repeat (first | exact Drawn0.refl _ | apply Drawn0.step)⟩
    · replace c5 := Bool.eq_false_iff.mpr c5
      subst c5
      rw [if_neg (show ¬ (false = true) by decide)] at H
      simp only [Option.some.injEq, Prod.mk.injEq] at H
      obtain ⟨rfl, rfl, rfl⟩ := H
      go_enter Try.func87, Try.ntmps87
      go_wp2_with (first | ((with_reducible refine gate_callee (f := 38) rfl ?_); refine zgl 16 Try.func38 #[.int .i64 a1, .int .i64 0, .int .i64 (l0.length : Int)] ?_; (with_reducible refine (F40.calls a1 0 (l0.length : Int) false _ A4.out).mono ?_); rintro e w' ⟨rfl, ⟨nd, rfl⟩⟩; refine ⟨_, rfl, ?_⟩))
      go_ret3
      exact ⟨zrs, by repeat (first | exact Drawn0.refl _ | apply Drawn0.step)⟩

/-- A state of type 78 at block g of W; what its slices lead to came in by w0. -/
def IsS78 (w0 W : World) (g : Nat) (f0 : List Int) (f1 : Int) (f2 : Bool) : Prop := ∃ A0 c0, W.heap[g]? = some (.cells #[.slice A0 f0.length c0, .int .i64 f1, .bool f2] 78 (0, 0)) ∧ w0.heap.size ≤ g ∧ (Kd.C (Kd.int .u8) w0 A0 f0.length f0 ∧ f0.length ≤ c0)
theorem IsS78.grown {w0 W : World} {g : Nat} {f0 : List Int} {f1 : Int} {f2 : Bool} {W1 : World} {row : Option Nat} (h : IsS78 w0 W g f0 f1 f2) (hw : W.grownBy W1 row) (hne : some g ≠ row) : IsS78 w0 W1 g f0 f1 f2 := by
  obtain ⟨A0, c0, hb, hg, hr0⟩ := h
  exact ⟨A0, c0, blk_grown hb hw hne, hg, hr0⟩
theorem IsS78.own_neN {w0 W : World} {g : Nat} {f0 : List Int} {f1 : Int} {f2 : Bool} {α : Type} {d : Kd α} {e : Nat} {base : Nat} {ok : Nat → Prop} {v : Value} {xs : List α} (h : IsS78 w0 W g f0 f1 f2) (ho : Kd.N d e W base ok v xs) (ht : e ≠ 78) : some g ≠ v.ownBlock := by
  obtain ⟨A0, c0, hb, hg, hr0⟩ := h
  exact Kd.N_ne ho hb ht
theorem IsS78.fresh {w0 W : World} {g : Nat} {f0 : List Int} {f1 : Int} {f2 : Bool} (h : IsS78 w0 W g f0 f1 f2) : ∀ k, W.heap.size ≤ k → k ≠ g := by
  obtain ⟨A0, c0, hb, hg, hr0⟩ := h
  exact Kd.freshB hb
theorem IsS78.kept {w0 W : World} {g : Nat} {f0 : List Int} {f1 : Int} {f2 : Bool} {W1 : World} {S : Nat → Prop} (h : IsS78 w0 W g f0 f1 f2) (hk : Kept W W1 S) (hne : ¬ S g) : IsS78 w0 W1 g f0 f1 f2 := by
  obtain ⟨A0, c0, hb, hg, hr0⟩ := h
  exact ⟨A0, c0, blk_kept hb hk hne, hg, hr0⟩
theorem IsS78.below {w0 W : World} {g : Nat} {f0 : List Int} {f1 : Int} {f2 : Bool} {W1 : World} (h : IsS78 w0 W g f0 f1 f2) (hw : Below W.heap.size W W1) : IsS78 w0 W1 g f0 f1 f2 := h.grown (grown_of_below hw none) (by simp)
theorem IsS78.alloc {w0 W : World} {g : Nat} {f0 : List Int} {f1 : Int} {f2 : Bool} (h : IsS78 w0 W g f0 f1 f2) (o : Obj) : IsS78 w0 (W.alloc o) g f0 f1 f2 := h.below (below_alloc (Below.refl _ _) o)
theorem IsS78.drewN {w0 W : World} {g : Nat} {f0 : List Int} {f1 : Int} {f2 : Bool} (h : IsS78 w0 W g f0 f1 f2) (m : Nat) : IsS78 w0 (W.drewN m) g f0 f1 f2 := h
theorem IsS78.drew {w0 W : World} {g : Nat} {f0 : List Int} {f1 : Int} {f2 : Bool} (h : IsS78 w0 W g f0 f1 f2) : IsS78 w0 W.drew g f0 f1 f2 := h
theorem IsS78.at_ {w0 W : World} {g : Nat} {f0 : List Int} {f1 : Int} {f2 : Bool} {w' : World} {m : Nat} (hq : W.drewN m = w') (h : IsS78 w0 W g f0 f1 f2) : IsS78 w0 w' g f0 f1 f2 := by subst hq; exact IsS78.drewN h m
theorem IsS78.apart {w0 W : World} {g : Nat} {f0 : List Int} {f1 : Int} {f2 : Bool} {α : Type} {d : Kd α} {e : Nat} {base : Nat} {ok : Nat → Prop} {v : Value} {xs : List α} (h : IsS78 w0 W g f0 f1 f2) (ho : d.R e W base ok v xs) (ht : ∀ q, q ∈ e :: d.E → q ≠ 78) : d.R e W base (fun k => ok k ∧ k ≠ g) v xs := by
  obtain ⟨A0, c0, hb, hg, hr0⟩ := h
  exact Kd.R_types ho hb ht
theorem IsS78.own_ne {w0 W : World} {g : Nat} {f0 : List Int} {f1 : Int} {f2 : Bool} {α : Type} {d : Kd α} {e : Nat} {base : Nat} {ok : Nat → Prop} {v : Value} {xs : List α} (h : IsS78 w0 W g f0 f1 f2) (ho : d.R e W base ok v xs) (ht : e ≠ 78) : some g ≠ v.ownBlock := by
  obtain ⟨A0, c0, hb, hg, hr0⟩ := h
  exact Kd.R_ne ho hb ht
theorem IsS78.apartQ {w0 W : World} {g : Nat} {f0 : List Int} {f1 : Int} {f2 : Bool} {α : Type} {d : Kd α} {e : Nat} {base : Nat} {ok : Nat → Prop} {v : Value} {xs : List α} (h : IsS78 w0 W g f0 f1 f2) (ho : d.Q e W base ok v xs) (ht : ∀ q, q ∈ e :: d.E → q ≠ 78) : d.Q e W base (fun k => ok k ∧ k ≠ g) v xs := by
  obtain ⟨A0, c0, hb, hg, hr0⟩ := h
  exact Kd.Q_types ho hb ht
theorem IsS78.own_neQ {w0 W : World} {g : Nat} {f0 : List Int} {f1 : Int} {f2 : Bool} {α : Type} {d : Kd α} {e : Nat} {base : Nat} {ok : Nat → Prop} {v : Value} {xs : List α} (h : IsS78 w0 W g f0 f1 f2) (ho : d.Q e W base ok v xs) (ht : e ≠ 78) : some g ≠ v.ownBlock := by
  obtain ⟨A0, c0, hb, hg, hr0⟩ := h
  exact Kd.Q_ne ho hb ht
theorem IsS78.apartS {w0 W : World} {g : Nat} {f0 : List Int} {f1 : Int} {f2 : Bool} {α : Type} {d : Kd α} {e : Nat} {base : Nat} {ok : Nat → Prop} {v : Value} {xs : List α} (h : IsS78 w0 W g f0 f1 f2) (ho : d.S e W base ok v xs) (ht : ∀ q, q ∈ e :: d.E → q ≠ 78) : d.S e W base (fun k => ok k ∧ k ≠ g) v xs := by
  obtain ⟨A0, c0, hb, hg, hr0⟩ := h
  exact Kd.S_types ho hb ht
theorem IsS78.own_neS {w0 W : World} {g : Nat} {f0 : List Int} {f1 : Int} {f2 : Bool} {α : Type} {d : Kd α} {e : Nat} {base : Nat} {ok : Nat → Prop} {v : Value} {xs : List α} (h : IsS78 w0 W g f0 f1 f2) (ho : d.S e W base ok v xs) (ht : e ≠ 78) : some g ≠ v.ownBlock := by
  obtain ⟨A0, c0, hb, hg, hr0⟩ := h
  exact Kd.S_ne ho hb ht
theorem IsS78.lt {w0 W : World} {g : Nat} {f0 : List Int} {f1 : Int} {f2 : Bool} (h : IsS78 w0 W g f0 f1 f2) : g < W.heap.size := by
  obtain ⟨A0, c0, hb, hg, hr0⟩ := h
  exact blk_lt hb
theorem IsS78.ge {w0 W : World} {g : Nat} {f0 : List Int} {f1 : Int} {f2 : Bool} (h : IsS78 w0 W g f0 f1 f2) : w0.heap.size ≤ g := by
  obtain ⟨A0, c0, hb, hg, hr0⟩ := h
  exact hg
theorem IsS78.ne_blk {w0 W : World} {g : Nat} {f0 : List Int} {f1 : Int} {f2 : Bool} {a : Nat} {cs : Array Value} {t : TypeId} {fr : Nat × Nat} (h : IsS78 w0 W g f0 f1 f2) (hb2 : W.heap[a]? = some (.cells cs t fr)) (ht : t ≠ 78) : g ≠ a := by
  obtain ⟨A0, c0, hb, hg, hr0⟩ := h
  rintro rfl
  rw [hb] at hb2
  injection hb2 with hb2
  injection hb2 with _ ht2
  exact ht ht2.symm
theorem IsS78.far {w0 W : World} {g : Nat} {f0 : List Int} {f1 : Int} {f2 : Bool} {p : Addr} (h : IsS78 w0 W g f0 f1 f2) (hne : g ≠ p.block) (u : Value) : IsS78 w0 (W.setCell p u) g f0 f1 f2 := by
  obtain ⟨A0, c0, hb, hg, hr0⟩ := h
  exact ⟨A0, c0, blk_far hb hne u, hg, hr0⟩
theorem cellS78_0 {W : World} {g : Nat} {A0 : Option Addr} {c0 : Nat} {f0 : List Int} {f1 : Int} {f2 : Bool} (h : W.heap[g]? = some (.cells #[.slice A0 f0.length c0, .int .i64 f1, .bool f2] 78 (0, 0))) : W.cell? ⟨g, 0, none⟩ = some (.slice A0 f0.length c0) := (blk_cell h 0).trans rfl
theorem cellS78_1 {W : World} {g : Nat} {A0 : Option Addr} {c0 : Nat} {f0 : List Int} {f1 : Int} {f2 : Bool} (h : W.heap[g]? = some (.cells #[.slice A0 f0.length c0, .int .i64 f1, .bool f2] 78 (0, 0))) : W.cell? ⟨g, 1, none⟩ = some (.int .i64 f1) := (blk_cell h 1).trans rfl
theorem IsS78.set_1 {w0 W : World} {g : Nat} {f0 : List Int} {f1 : Int} {f2 : Bool} (h : IsS78 w0 W g f0 f1 f2) (x : Int) : IsS78 w0 (W.setCell ⟨g, 1, none⟩ (.int .i64 x)) g f0 x f2 := by
  obtain ⟨A0, c0, hb, hg, hr0⟩ := h
  exact ⟨A0, c0, by simpa using blk_set hb 1 (.int .i64 x), hg, hr0⟩
theorem cellS78_2 {W : World} {g : Nat} {A0 : Option Addr} {c0 : Nat} {f0 : List Int} {f1 : Int} {f2 : Bool} (h : W.heap[g]? = some (.cells #[.slice A0 f0.length c0, .int .i64 f1, .bool f2] 78 (0, 0))) : W.cell? ⟨g, 2, none⟩ = some (.bool f2) := (blk_cell h 2).trans rfl
theorem IsS78.set_2 {w0 W : World} {g : Nat} {f0 : List Int} {f1 : Int} {f2 : Bool} (h : IsS78 w0 W g f0 f1 f2) (x : Bool) : IsS78 w0 (W.setCell ⟨g, 2, none⟩ (.bool x)) g f0 f1 x := by
  obtain ⟨A0, c0, hb, hg, hr0⟩ := h
  exact ⟨A0, c0, by simpa using blk_set hb 2 (.bool x), hg, hr0⟩
theorem IsS78.new (w0 W : World) (A0 : Option Addr) (c0 : Nat) (f0 : List Int) (f1 : Int) (f2 : Bool) (hB : Below w0.heap.size w0 W) (hr0 : (Kd.C (Kd.int .u8) w0 A0 f0.length f0 ∧ f0.length ≤ c0)) : IsS78 w0 (W.alloc (.cells #[.slice A0 f0.length c0, .int .i64 f1, .bool f2] 78)) W.heap.size f0 f1 f2 := ⟨A0, c0, by simpa using heap_alloc_new W _, hB.size, hr0⟩

theorem zi78 {V : World} {w0 W : World} {g : Nat} {f0 : List Int} {f1 : Int} {f2 : Bool} {f0' : List Int} {f1' : Int} {f2' : Bool} (h : Aside0 (IsS78 w0 W g f0 f1 f2)) (hv : IsS78 w0 W g f0 f1 f2 → IsS78 w0 V g f0' f1' f2' := by intro h_; repeat (first | (with_reducible first | exact h_ | apply IsS78.alloc | apply IsS78.drewN | apply IsS78.drew | apply IsS78.set_1 | apply IsS78.set_2 | refine IsS78.far ?_ (Aside0.out (by assumption)) _) | exact h_)) : IsS78 w0 V g f0' f1' f2' := hv h.out
theorem zj78 {B : Nat} {w W V : World} (h : Aside0 (Below B w W)) (hv : Below B w W → Below B w V := by intro h_; repeat (first | (with_reducible first | exact h_ | apply below_alloc | apply pw_below_drewN | apply below_drew1 | refine below_set ?_ (Aside0.out (by assumption)) | refine below_set ?_ (IsS78.ge (Aside0.out (by assumption)))) | exact h_)) : Below B w V := hv h.out
theorem zKS78 {w0 W V w1 Y : World} {g : Nat} {f0 : List Int} {f1 : Int} {f2 : Bool} {α : Type} {d : Kd α} {e : Nat} {base : Nat} {ok : Nat → Prop} {v : Value} {xs : List α} (hi : Aside0 (IsS78 w0 W g f0 f1 f2)) (ho : Aside0 (Kd.S d e Y base ok v xs)) (hk : KeepBut V w1 g none) (hv : IsS78 w0 W g f0 f1 f2 → IsS78 w0 V g f0 f1 f2 := by intro h_; repeat (first | (with_reducible first | exact h_ | apply IsS78.alloc | apply IsS78.drewN | apply IsS78.drew | apply IsS78.set_1 | apply IsS78.set_2 | refine IsS78.far ?_ (Aside0.out (by assumption)) _) | exact h_)) (hw : Kd.S d e Y base ok v xs → Kd.S d e V base ok v xs := by intro h_; (with_reducible repeat (first | apply Kd.S_alloc | apply Kd.S_drewN | apply Kd.S_drew)); exact h_) (ht : ∀ q, q ∈ e :: d.E → q ≠ 78 := by decide) : Aside0 (Kd.S d e w1 base ok v xs) := ⟨Kd.S_mono (Kd.S_keep (IsS78.apartS (hv hi.out) (hw ho.out) ht) hk (fun _ h => h.2)) (fun _ h => h.1)⟩
theorem zKR78 {w0 W V w1 Y : World} {g : Nat} {f0 : List Int} {f1 : Int} {f2 : Bool} {α : Type} {d : Kd α} {e : Nat} {base : Nat} {ok : Nat → Prop} {v : Value} {xs : List α} (hi : Aside0 (IsS78 w0 W g f0 f1 f2)) (ho : Aside0 (Kd.R d e Y base ok v xs)) (hk : KeepBut V w1 g none) (hv : IsS78 w0 W g f0 f1 f2 → IsS78 w0 V g f0 f1 f2 := by intro h_; repeat (first | (with_reducible first | exact h_ | apply IsS78.alloc | apply IsS78.drewN | apply IsS78.drew | apply IsS78.set_1 | apply IsS78.set_2 | refine IsS78.far ?_ (Aside0.out (by assumption)) _) | exact h_)) (hw : Kd.R d e Y base ok v xs → Kd.R d e V base ok v xs := by intro h_; (with_reducible repeat (first | apply Kd.R_alloc | apply Kd.R_drewN | apply Kd.R_drew)); exact h_) (ht : ∀ q, q ∈ e :: d.E → q ≠ 78 := by decide) : Aside0 (Kd.R d e w1 base ok v xs) := ⟨Kd.R_mono (Kd.R_keep (IsS78.apart (hv hi.out) (hw ho.out) ht) hk (fun _ h => h.2)) (fun _ h => h.1)⟩
/-! ### F12: function 73 -/
def F12.f (k : Nat) (s0_0 : List Int) (s0_1 : Int) (s0_2 : Bool) (a1 : Int) : Option (Int × Int × Bool) := if s0_2 = true then (some (0, s0_1, s0_2)) else ((F9.f k s0_0 s0_1).bind fun bt691 => (if bt691.2.2 = 0 then (if bt691.1 > a1 then (some (0, s0_1, true)) else (some (bt691.1, bt691.2.1, s0_2))) else (some (0, s0_1, true))))
theorem F12.mono : ∀ a0 a1 a2 a3 k, LeO (F12.f k a0 a1 a2 a3) (F12.f (k + 1) a0 a1 a2 a3) := by
  intro a0 a1 a2 a3 k
  unfold F12.f
  repeat' with_reducible first | exact F9.mono _ _ _ | exact LeO.refl _ | exact LeO.none _ | refine LeO.ite ?_ ?_ | refine LeO.bind ?_ (fun _ => ?_)
set_option maxHeartbeats 8000000 in
set_option maxRecDepth 100000 in
theorem F12.calls (k : Nat) (g : Nat) (s0_0 : List Int) (s0_1 : Int) (s0_2 : Bool) (a1 : Int) (r1 : Int) (r2 : Int) (r3 : Bool) (w0 w : World) (hI : IsS78 w0 w g s0_0 s0_1 s0_2) (hB : Below w0.heap.size w0 w) (h : F12.f k s0_0 s0_1 s0_2 a1 = some (r1, r2, r3)) :
    Calls Try.prog 73 #[.pointer (some ⟨g, 0, none⟩), .int .i64 a1] w fun e w' => e = .returned (.int .i64 r1) ∧ IsS78 w0 w' g s0_0 r2 r3 ∧ Below w0.heap.size w0 w' ∧ KeepBut w w' g none := by
  have HI0 := zm hI
  have HK := zm (KeepBut.refl w g none)
  have HL := zm hB.size
  clear hI
  have HW0 := zm hB.size
  have HB := zm hB
  clear hB
  have H := h
  unfold F12.f at H
  clear h
  by_cases c3 : s0_2 = true
  · subst c3
    rw [if_pos rfl] at H
    simp only [Option.some.injEq, Prod.mk.injEq] at H
    obtain ⟨rfl, rfl, rfl⟩ := H
    obtain ⟨ASz4_0, cSz4_0, HGz4, hgz4, HSz4_0⟩ := HI0.out
    have hcz4_0 := cellS78_0 HGz4
    have hcz4_1 := cellS78_1 HGz4
    have hcz4_2 := cellS78_2 HGz4
    have hfz4_1 := blk_frozen HGz4 1
    have hfz4_2 := blk_frozen HGz4 2
    clear HGz4 hgz4
    go_enter Try.func73, Try.ntmps73
    go_wp2
    repeat (go_quiet (fail); try go_wp2)
    go_ret
    exact ⟨zre, zi78 HI0, zj78 HB, zk HK⟩
  · replace c3 := Bool.eq_false_iff.mpr c3
    subst c3
    rw [if_neg (show ¬ (false = true) by decide)] at H
    replace H := zbi H
    obtain ⟨⟨t691, t692, t693⟩, A5, H⟩ := H
    try dsimp only at H
    by_cases c6 : t693 = 0
    · rw [if_pos c6] at H
      have c6b0 := z1 c6
      have c6b1 := z3 c6
      clear c6
      by_cases c7 : t691 > a1
      · rw [if_pos c7] at H
        have c7b0 := decide_eq_true c7
        clear c7
        simp only [Option.some.injEq, Prod.mk.injEq] at H
        obtain ⟨rfl, rfl, rfl⟩ := H
        obtain ⟨ASz8_0, cSz8_0, HGz8, hgz8, HSz8_0⟩ := HI0.out
        have hcz8_0 := cellS78_0 HGz8
        have hcz8_1 := cellS78_1 HGz8
        have hcz8_2 := cellS78_2 HGz8
        have hfz8_1 := blk_frozen HGz8 1
        have hfz8_2 := blk_frozen HGz8 2
        clear HGz8 hgz8
        go_enter Try.func73, Try.ntmps73
        go_wp2_with (first | (go_at_call 87; (with_reducible refine (F9.calls k _ _ s0_0 s0_1 t691 t692 t693 _ ?side1 ?side2 A5.out).mono ?_); (case side1 => exact Kd.C_below HSz8_0.1 (zj78 HB)); (case side2 => exact HSz8_0.2); rintro e w' ⟨rfl, ⟨nd, rfl⟩⟩; (try first | exact ⟨rfl, _, World.drewN_drewN _ _ _⟩ | exact ⟨rfl, _, Eq.trans (World.drewN_drewN _ _ _) (congrArg (World.drewN _) (Nat.add_assoc _ _ _))⟩)))
        repeat (go_quiet (first | (go_at_call 87; (with_reducible refine (F9.calls k _ _ s0_0 s0_1 t691 t692 t693 _ ?side1 ?side2 A5.out).mono ?_); (case side1 => exact Kd.C_below HSz8_0.1 (zj78 HB)); (case side2 => exact HSz8_0.2); rintro e w' ⟨rfl, ⟨nd, rfl⟩⟩; (try first | exact ⟨rfl, _, World.drewN_drewN _ _ _⟩ | exact ⟨rfl, _, Eq.trans (World.drewN_drewN _ _ _) (congrArg (World.drewN _) (Nat.add_assoc _ _ _))⟩))); try go_wp2_with (first | (go_at_call 87; (with_reducible refine (F9.calls k _ _ s0_0 s0_1 t691 t692 t693 _ ?side1 ?side2 A5.out).mono ?_); (case side1 => exact Kd.C_below HSz8_0.1 (zj78 HB)); (case side2 => exact HSz8_0.2); rintro e w' ⟨rfl, ⟨nd, rfl⟩⟩; (try first | exact ⟨rfl, _, World.drewN_drewN _ _ _⟩ | exact ⟨rfl, _, Eq.trans (World.drewN_drewN _ _ _) (congrArg (World.drewN _) (Nat.add_assoc _ _ _))⟩))))
        go_ret
        exact ⟨zre, zi78 HI0, zj78 HB, zk HK⟩
      · rw [if_neg c7] at H
        have c7b0 := decide_eq_false c7
        clear c7
        simp only [Option.some.injEq, Prod.mk.injEq] at H
        obtain ⟨rfl, rfl, rfl⟩ := H
        obtain ⟨ASz9_0, cSz9_0, HGz9, hgz9, HSz9_0⟩ := HI0.out
        have hcz9_0 := cellS78_0 HGz9
        have hcz9_1 := cellS78_1 HGz9
        have hcz9_2 := cellS78_2 HGz9
        have hfz9_1 := blk_frozen HGz9 1
        have hfz9_2 := blk_frozen HGz9 2
        clear HGz9 hgz9
        go_enter Try.func73, Try.ntmps73
        go_wp2_with (first | (go_at_call 87; (with_reducible refine (F9.calls k _ _ s0_0 s0_1 t691 t692 t693 _ ?side1 ?side2 A5.out).mono ?_); (case side1 => exact Kd.C_below HSz9_0.1 (zj78 HB)); (case side2 => exact HSz9_0.2); rintro e w' ⟨rfl, ⟨nd, rfl⟩⟩; (try first | exact ⟨rfl, _, World.drewN_drewN _ _ _⟩ | exact ⟨rfl, _, Eq.trans (World.drewN_drewN _ _ _) (congrArg (World.drewN _) (Nat.add_assoc _ _ _))⟩)))
        repeat (go_quiet (first | (go_at_call 87; (with_reducible refine (F9.calls k _ _ s0_0 s0_1 t691 t692 t693 _ ?side1 ?side2 A5.out).mono ?_); (case side1 => exact Kd.C_below HSz9_0.1 (zj78 HB)); (case side2 => exact HSz9_0.2); rintro e w' ⟨rfl, ⟨nd, rfl⟩⟩; (try first | exact ⟨rfl, _, World.drewN_drewN _ _ _⟩ | exact ⟨rfl, _, Eq.trans (World.drewN_drewN _ _ _) (congrArg (World.drewN _) (Nat.add_assoc _ _ _))⟩))); try go_wp2_with (first | (go_at_call 87; (with_reducible refine (F9.calls k _ _ s0_0 s0_1 t691 t692 t693 _ ?side1 ?side2 A5.out).mono ?_); (case side1 => exact Kd.C_below HSz9_0.1 (zj78 HB)); (case side2 => exact HSz9_0.2); rintro e w' ⟨rfl, ⟨nd, rfl⟩⟩; (try first | exact ⟨rfl, _, World.drewN_drewN _ _ _⟩ | exact ⟨rfl, _, Eq.trans (World.drewN_drewN _ _ _) (congrArg (World.drewN _) (Nat.add_assoc _ _ _))⟩))))
        go_ret
        exact ⟨zre, zi78 HI0, zj78 HB, zk HK⟩
    · rw [if_neg c6] at H
      have c6b0 := z2 c6
      have c6b1 := z4 c6
      simp only [Option.some.injEq, Prod.mk.injEq] at H
      obtain ⟨rfl, rfl, rfl⟩ := H
      obtain ⟨ASz10_0, cSz10_0, HGz10, hgz10, HSz10_0⟩ := HI0.out
      have hcz10_0 := cellS78_0 HGz10
      have hcz10_1 := cellS78_1 HGz10
      have hcz10_2 := cellS78_2 HGz10
      have hfz10_1 := blk_frozen HGz10 1
      have hfz10_2 := blk_frozen HGz10 2
      clear HGz10 hgz10
      go_enter Try.func73, Try.ntmps73
      go_wp2_with (first | (go_at_call 87; (with_reducible refine (F9.calls k _ _ s0_0 s0_1 t691 t692 t693 _ ?side1 ?side2 A5.out).mono ?_); (case side1 => exact Kd.C_below HSz10_0.1 (zj78 HB)); (case side2 => exact HSz10_0.2); rintro e w' ⟨rfl, ⟨nd, rfl⟩⟩; (try first | exact ⟨rfl, _, World.drewN_drewN _ _ _⟩ | exact ⟨rfl, _, Eq.trans (World.drewN_drewN _ _ _) (congrArg (World.drewN _) (Nat.add_assoc _ _ _))⟩)))
      repeat (go_quiet (first | (go_at_call 87; (with_reducible refine (F9.calls k _ _ s0_0 s0_1 t691 t692 t693 _ ?side1 ?side2 A5.out).mono ?_); (case side1 => exact Kd.C_below HSz10_0.1 (zj78 HB)); (case side2 => exact HSz10_0.2); rintro e w' ⟨rfl, ⟨nd, rfl⟩⟩; (try first | exact ⟨rfl, _, World.drewN_drewN _ _ _⟩ | exact ⟨rfl, _, Eq.trans (World.drewN_drewN _ _ _) (congrArg (World.drewN _) (Nat.add_assoc _ _ _))⟩))); try go_wp2_with (first | (go_at_call 87; (with_reducible refine (F9.calls k _ _ s0_0 s0_1 t691 t692 t693 _ ?side1 ?side2 A5.out).mono ?_); (case side1 => exact Kd.C_below HSz10_0.1 (zj78 HB)); (case side2 => exact HSz10_0.2); rintro e w' ⟨rfl, ⟨nd, rfl⟩⟩; (try first | exact ⟨rfl, _, World.drewN_drewN _ _ _⟩ | exact ⟨rfl, _, Eq.trans (World.drewN_drewN _ _ _) (congrArg (World.drewN _) (Nat.add_assoc _ _ _))⟩))))
      go_ret
      exact ⟨zre, zi78 HI0, zj78 HB, zk HK⟩

/-! ### F22: function 72 -/
def F22.f (k : Nat) (s0_0 : List Int) (s0_1 : Int) (s0_2 : Bool) : Option (ByteArray × Int × Bool) := (F12.f k s0_0 s0_1 s0_2 65536).bind fun bt => (if 0 ≤ bt.1 then (if bt.1 ≤ 9000000000 then (if 0 ≤ bt.2.1 then (if bt.2.1 ≤ 9000000000 then (if s0_0.length ≤ 9000000000 then (if bt.2.2 = true then (some ((⟨#[]⟩ : ByteArray), bt.2.1, true)) else (if bt.2.1 + bt.1 > (s0_0.length : Int) then (some ((⟨#[]⟩ : ByteArray), bt.2.1, true)) else (some (strOfNums ((s0_0.take (bt.2.1 + bt.1).toNat).drop bt.2.1.toNat), bt.2.1 + bt.1, false)))) else (none)) else (none)) else (none)) else (none)) else (none))
theorem F22.mono : ∀ a0 a1 a2 k, LeO (F22.f k a0 a1 a2) (F22.f (k + 1) a0 a1 a2) := by
  intro a0 a1 a2 k
  unfold F22.f
  exact LeO.bind (F12.mono _ _ _ _ _) (fun _ => LeO.refl _)
set_option maxHeartbeats 8000000 in
set_option maxRecDepth 100000 in
theorem F22.calls (k : Nat) (g : Nat) (s0_0 : List Int) (s0_1 : Int) (s0_2 : Bool) (r1 : ByteArray) (r2 : Int) (r3 : Bool) (w0 w : World) (hI : IsS78 w0 w g s0_0 s0_1 s0_2) (hB : Below w0.heap.size w0 w) (h : F22.f k s0_0 s0_1 s0_2 = some (r1, r2, r3)) :
    Calls Try.prog 72 #[.pointer (some ⟨g, 0, none⟩)] w fun e w' => e = .returned (.string r1) ∧ IsS78 w0 w' g s0_0 r2 r3 ∧ Below w0.heap.size w0 w' ∧ KeepBut w w' g none := by
  unfold F22.f at h
  obtain ⟨⟨n1, at1, bad1⟩, hnum, h⟩ := Option.bind_eq_some_iff.1 h
  simp only at h
  by_cases g1 : 0 ≤ n1
  case neg => rw [if_neg g1] at h; cases h
  rw [if_pos g1] at h
  by_cases g2 : n1 ≤ 9000000000
  case neg => rw [if_neg g2] at h; cases h
  rw [if_pos g2] at h
  by_cases g3 : 0 ≤ at1
  case neg => rw [if_neg g3] at h; cases h
  rw [if_pos g3] at h
  by_cases g4 : at1 ≤ 9000000000
  case neg => rw [if_neg g4] at h; cases h
  rw [if_pos g4] at h
  by_cases g5 : s0_0.length ≤ 9000000000
  case neg => rw [if_neg g5] at h; cases h
  rw [if_pos g5] at h
  have hc := fun W hi hb => F12.calls k g s0_0 s0_1 s0_2 65536 n1 at1 bad1 w0 W hi hb hnum
  have HI := zm hI
  have HB := zm hB
  clear hnum hI hB
  have bad : Calls Try.prog 73 #[.pointer (some ⟨g, 0, none⟩), .int .i64 65536] w (fun e w' => e = .returned (.int .i64 n1) ∧ IsS78 w0 w' g s0_0 at1 bad1 ∧ Below w0.heap.size w0 w' ∧ KeepBut w w' g none) := hc w HI.out HB.out
  clear hc
  by_cases cb : bad1 = true
  · subst cb
    rw [if_pos rfl] at h
    simp only [Option.some.injEq, Prod.mk.injEq] at h
    obtain ⟨rfl, rfl, rfl⟩ := h
    go_enter Try.func72, Try.ntmps72
    go_wp2_with (go_at_call 73; refine bad.mono ?_; rintro e w1 ⟨rfl, hi1, hb1, hk1⟩; have HI1 := zm hi1; have HB1 := zm hb1; have HK1 := zm hk1; obtain ⟨A1, c1, HG1, hg1, HS1⟩ := hi1; have hx0 := cellS78_0 HG1; have hx1 := cellS78_1 HG1; have hx2 := cellS78_2 HG1; have hf1 := blk_frozen HG1 1; have hf2 := blk_frozen HG1 2; clear HG1 hg1 hb1 hk1)
    repeat (go_quiet (fail); try go_wp2)
    go_ret
    exact ⟨rfl, zi78 HI1, zj78 HB1, zk HK1⟩
  · have cb' := Bool.eq_false_iff.2 cb
    subst cb'
    rw [if_neg Bool.false_ne_true] at h
    clear cb
    have q1 : wrap64 (at1 + n1) = at1 + n1 := by unfold wrap64; omega
    have q2 : IntKind.i64.wrap (at1 + n1) = at1 + n1 := (i64_w _).trans q1
    have q3 : wrap64 (at1 + n1 - n1) = at1 := by unfold wrap64; omega
    have q4 : IntKind.i64.wrap (at1 + n1 - n1) = at1 := (i64_w _).trans q3
    have q5 : wrap64 ((s0_0.length : Int) - at1) = (s0_0.length : Int) - at1 := by unfold wrap64; omega
    have q6 : IntKind.i64.wrap ((s0_0.length : Int) - at1) = (s0_0.length : Int) - at1 := (i64_w _).trans q5
    by_cases cl : at1 + n1 > (s0_0.length : Int)
    · rw [if_pos cl] at h
      have d1 : decide ((s0_0.length : Int) < at1 + n1) = true := decide_eq_true cl
      clear cl
      simp only [Option.some.injEq, Prod.mk.injEq] at h
      obtain ⟨rfl, rfl, rfl⟩ := h
      clear g1 g2 g3 g4 g5
      go_enter Try.func72, Try.ntmps72
      go_wp2_with (go_at_call 73; refine bad.mono ?_; rintro e w1 ⟨rfl, hi1, hb1, hk1⟩; have HI1 := zm hi1; have HB1 := zm hb1; have HK1 := zm hk1; obtain ⟨A1, c1, HG1, hg1, HS1⟩ := hi1; have hx0 := cellS78_0 HG1; have hx1 := cellS78_1 HG1; have hx2 := cellS78_2 HG1; have hf1 := blk_frozen HG1 1; have hf2 := blk_frozen HG1 2; clear HG1 hg1 hb1 hk1)
      repeat (go_quiet (fail); try go_wp2)
      go_ret
      exact ⟨rfl, zi78 HI1, zj78 HB1, zk HK1⟩
    · rw [if_neg cl] at h
      have d1 : decide ((s0_0.length : Int) < at1 + n1) = false := decide_eq_false cl
      have cl2 : at1 + n1 ≤ (s0_0.length : Int) := by omega
      clear cl
      simp only [Option.some.injEq, Prod.mk.injEq] at h
      obtain ⟨rfl, rfl, rfl⟩ := h
      have HG := zm (show 0 ≤ at1 ∧ at1 ≤ at1 + n1 ∧ at1 + n1 ≤ (s0_0.length : Int) from ⟨g3, by omega, by omega⟩)
      have HG0 := zm (And.intro g3 g4)
      clear g1 g2 g3 g4 g5
      go_enter Try.func72, Try.ntmps72
      go_upto_region 6 with (first | (go_at_call 73; refine bad.mono ?_; rintro e w1 ⟨rfl, hi1, hb1, hk1⟩; have HI1 := zm hi1; have HB1 := zm hb1; have HK1 := zm hk1; obtain ⟨A1, c1, HG1, hg1, HS1⟩ := hi1; have hx0 := cellS78_0 HG1; have hx1 := cellS78_1 HG1; have hx2 := cellS78_2 HG1; have hf1 := blk_frozen HG1 1; have hf2 := blk_frozen HG1 2; clear HG1 hg1 hb1 hk1) | (go_quiet (fail)))
      have HI2 : Aside0 (IsS78 w0 ((w1.drewN nq).setCell ⟨g, 1, none⟩ (.int .i64 (at1 + n1))) g s0_0 (at1 + n1) false) := ⟨zi78 HI1⟩
      have HB2 : Aside0 (Below w0.heap.size w0 ((w1.drewN nq).setCell ⟨g, 1, none⟩ (.int .i64 (at1 + n1)))) := ⟨zj78 HB1⟩
      have HK2 : Aside0 (KeepBut w ((w1.drewN nq).setCell ⟨g, 1, none⟩ (.int .i64 (at1 + n1))) g none) := ⟨zk HK1⟩
      clear hx0 hx1 hx2 hf1 hf2 HS1
      generalize (w1.drewN nq).setCell ⟨g, 1, none⟩ (.int .i64 (at1 + n1)) = w2 at HI2 HB2 HK2 ⊢
      clear HI1 HB1 HK1
      obtain ⟨A2, c2, HG2, hg2, HS2⟩ := HI2.out
      have hx0 := cellS78_0 HG2
      have hx1 := cellS78_1 HG2
      clear HG2 hg2
      obtain ⟨A3, hcut, hrd, hle⟩ := print_mid_of (P := Try.prog) (Value.int .u8) (0 : Int) 26 5 .i64 .i64 Try.underlying26 rfl rfl A2 c2 s0_0 at1 (at1 + n1) HG.out.1 HG.out.2.1 HG.out.2.2 HS2.2
      have hcv := fun m => string_of_reads (c := c2 - at1.toNat) Try.underlying26 Try.underlying5 Try.underlying9 (hrd _ (Kd.reads_of_C (enc := Value.int .u8) (d := (0 : Int)) (h1 := fun _ => rfl) (Kd.C_drewN (Kd.C_below HS2.1 HB2.out) m)))
      clear HS2 hrd hle HG h
      generalize hxs : (s0_0.take (at1 + n1).toNat).drop at1.toNat = xs at hcut hcv ⊢
      have q7 : wrap64 at1 = at1 := by have := HG0.out; unfold wrap64; omega
      have q8 : IntKind.i64.wrap at1 = at1 := (i64_w _).trans q7
      clear HG0
      go_quiet (fail)
      try go_wp2
      go_ret
      exact ⟨by subst hxs; rfl, zi78 HI2, zj78 HB2, zk HK2⟩

def fl15_ (n m : Nat) : Array Bool := ((List.range n).map fun i => m.testBit i).toArray

/-! ### F2: function 44 -/
mutual
def F2.l0 : Nat → Int → Int → List Int → Int → Bool → ByteArray → List (S66) → Option (ByteArray × (List (S66)) × Int × Bool)
 | 0, _, _, _, _, _, _, _ => none
 | k + 1, x10, x11, x1000, x1001, x1002, x699000, x699001 => if x11 < x10 then ((F22.f k x1000 x1001 x1002).bind fun bt702 => ((F12.f k x1000 bt702.2.1 bt702.2.2 4096).bind fun bt706 => (F2.l1 k x10 x11 bt706.1 0 x1000 bt706.2.1 bt706.2.2 x699000 x699001 bt702.1 ([] : List ByteArray)))) else (some (x699000, x699001, x1001, x1002))
def F2.l1 : Nat → Int → Int → Int → Int → List Int → Int → Bool → ByteArray → List (S66) → ByteArray → List ByteArray → Option (ByteArray × (List (S66)) × Int × Bool)
 | 0, _, _, _, _, _, _, _, _, _, _, _ => none
 | k + 1, x10, x11, x17, x18, x1000, x1001, x1002, x699000, x699001, x706000, x706001 => if x18 < x17 then ((F22.f k x1000 x1001 x1002).bind fun bt709 => (if x706001.length < 8796093022208 then (if bt709.2.2 = true then (some (x699000, x699001, bt709.2.1, bt709.2.2)) else (F2.l1 k x10 x11 x17 (wrap64 (x18 + 1)) x1000 bt709.2.1 bt709.2.2 x699000 x699001 x706000 (x706001 ++ [bt709.1]))) else (none))) else ((F12.f k x1000 x1001 x1002 4096).bind fun bt715 => (F2.l2 k x10 x11 bt715.1 0 x1000 bt715.2.1 bt715.2.2 x699000 x699001 x706000 x706001 ([] : List Int)))
def F2.l2 : Nat → Int → Int → Int → Int → List Int → Int → Bool → ByteArray → List (S66) → ByteArray → List ByteArray → List Int → Option (ByteArray × (List (S66)) × Int × Bool)
 | 0, _, _, _, _, _, _, _, _, _, _, _, _ => none
 | k + 1, x10, x11, x34, x35, x1000, x1001, x1002, x699000, x699001, x706000, x706001, x706002 => if x35 < x34 then ((F12.f k x1000 x1001 x1002 2000000000000).bind fun bt721 => (if (Int.tmod bt721.1 2) = 1 then (if x706002.length < 17592186044416 then (if bt721.2.2 = true then (some (x699000, x699001, bt721.2.1, bt721.2.2)) else (F2.l2 k x10 x11 x34 (wrap64 (x35 + 1)) x1000 bt721.2.1 bt721.2.2 x699000 x699001 x706000 x706001 (x706002 ++ [wrap64 (Int.tdiv (wrap64 (-(wrap64 (bt721.1 + 1)))) 2)]))) else (none)) else (if x706002.length < 17592186044416 then (if bt721.2.2 = true then (some (x699000, x699001, bt721.2.1, bt721.2.2)) else (F2.l2 k x10 x11 x34 (wrap64 (x35 + 1)) x1000 bt721.2.1 bt721.2.2 x699000 x699001 x706000 x706001 (x706002 ++ [wrap64 (Int.tdiv bt721.1 2)]))) else (none)))) else (if x699001.length < 2199023255552 then ((some (x699001 ++ [(⟨x706000, x706001, x706002⟩ : S66)] : List (S66))).bind fun y718 => (if x1002 = true then (some (x699000, y718, x1001, x1002)) else (F2.l0 k x10 (wrap64 (x11 + 1)) x1000 x1001 x1002 x699000 y718))) else (none))
end
def F2.f (k : Nat) (s0_0 : List Int) (s0_1 : Int) (s0_2 : Bool) : Option (ByteArray × (List (S66)) × Int × Bool) := (F22.f k s0_0 s0_1 s0_2).bind fun bt695 => ((F12.f k s0_0 bt695.2.1 bt695.2.2 4096).bind fun bt699 => (F2.l0 k bt699.1 0 s0_0 bt699.2.1 bt699.2.2 bt695.1 ([] : List (S66))))
theorem F2.mono_l : ∀ k, (∀ y0 y1 y2 y3 y4 y5 y6, LeO (F2.l0 k y0 y1 y2 y3 y4 y5 y6) (F2.l0 (k + 1) y0 y1 y2 y3 y4 y5 y6)) ∧ (∀ y0 y1 y2 y3 y4 y5 y6 y7 y8 y9 y10, LeO (F2.l1 k y0 y1 y2 y3 y4 y5 y6 y7 y8 y9 y10) (F2.l1 (k + 1) y0 y1 y2 y3 y4 y5 y6 y7 y8 y9 y10)) ∧ (∀ y0 y1 y2 y3 y4 y5 y6 y7 y8 y9 y10 y11, LeO (F2.l2 k y0 y1 y2 y3 y4 y5 y6 y7 y8 y9 y10 y11) (F2.l2 (k + 1) y0 y1 y2 y3 y4 y5 y6 y7 y8 y9 y10 y11))
 | 0 => ⟨fun _ _ _ _ _ _ _ r h => by simp [F2.l0] at h, fun _ _ _ _ _ _ _ _ _ _ _ r h => by simp [F2.l1] at h, fun _ _ _ _ _ _ _ _ _ _ _ _ r h => by simp [F2.l2] at h⟩
 | k + 1 => by
  obtain ⟨ih0, ih1, ih2⟩ := F2.mono_l k
  refine ⟨?_, ?_, ?_⟩
  all_goals intros
  all_goals first | unfold F2.l0 | unfold F2.l1 | unfold F2.l2
  all_goals
   repeat' with_reducible first | exact ih0 _ _ _ _ _ _ _ | exact ih1 _ _ _ _ _ _ _ _ _ _ _ | exact ih2 _ _ _ _ _ _ _ _ _ _ _ _ | exact F12.mono _ _ _ _ _ | exact F22.mono _ _ _ _ | exact LeO.refl _ | exact LeO.none _ | refine LeO.ite ?_ ?_ | refine LeO.bind ?_ (fun _ => ?_)
theorem F2.mono : ∀ a0 a1 a2 k, LeO (F2.f k a0 a1 a2) (F2.f (k + 1) a0 a1 a2) := by
 intro a0 a1 a2 k
 obtain ⟨ih0, ih1, ih2⟩ := F2.mono_l k
 unfold F2.f
 repeat' with_reducible first | exact ih0 _ _ _ _ _ _ _ | exact ih1 _ _ _ _ _ _ _ _ _ _ _ | exact ih2 _ _ _ _ _ _ _ _ _ _ _ _ | exact F12.mono _ _ _ _ _ | exact F22.mono _ _ _ _ | exact LeO.refl _ | exact LeO.none _ | refine LeO.ite ?_ ?_ | refine LeO.bind ?_ (fun _ => ?_)
def F2.T7 : Bool × List (List Nat × List Nat) := (true, [([], []), ([0], [0]), ([], []), ([2], [2]), ([3], [3]), ([1, 4, 3], [1, 4]), ([0, 1, 2, 3, 4, 5], []), ([6, 5, 5, 0, 1, 2, 3, 4, 5], [5, 6])])
def F2.B7 : List Nat := [0, 1, 0, 4, 12, 31, 63, 127]
theorem F2.tab7 : rtab .any (opsOf Try.f44 7) = F2.T7 := by kernel_rfl
theorem F2.bits7 : waitsOk F2.T7.2 F2.B7 = true := by kernel_rfl
set_option maxHeartbeats 8000000 in
set_option maxRecDepth 100000 in
theorem F2.calls (k : Nat) (g : Nat) (s0_0 : List Int) (s0_1 : Int) (s0_2 : Bool) (r1 : ByteArray) (r2 : List (S66)) (r3 : Int) (r4 : Bool) (w0 w : World) (hI : IsS78 w0 w g s0_0 s0_1 s0_2) (hB : Below w0.heap.size w0 w) (h : F2.f k s0_0 s0_1 s0_2 = some (r1, r2, r3, r4)) :
 Calls Try.prog 44 #[.pointer (some ⟨g, 0, none⟩)] w fun e w' => ∃ v1_ : Value, e = .returned (.agg #[.string r1, v1_]) ∧ Kd.S k66 66 w' w.heap.size (fun _ => True) v1_ r2 ∧ IsS78 w0 w' g s0_0 r3 r4 ∧ Below w0.heap.size w0 w' ∧ KeepBut w w' g none := by
 have hu31 := Try.underlying31
 have hu66 := Try.underlying66
 have HI0 := zm hI
 have HK := zm (KeepBut.refl w g none)
 have HL := zm hB.size
 clear hI
 have HW0 := zm hB.size
 have HB := zm hB
 clear hB
 have H := h
 unfold F2.f at H
 clear h
 replace H := zbi H
 obtain ⟨⟨t695, t696, t697⟩, A2, H⟩ := H
 try dsimp only at H
 replace H := zbi H
 obtain ⟨⟨t699, t700, t701⟩, A3, H⟩ := H
 try dsimp only at H
 have H' := zm H
 clear H
 go_enter Try.func44, Try.ntmps44
 go_wp2_with (first | ((with_reducible refine gate_dst (N := 2) rfl ?_); refine box_event (by rfl) (N := 2) (by rfl) (cs := #[.string (⟨#[]⟩ : ByteArray), .slice none 0 0]) (t := 31) zgs ?_; intro gb694 hg w4 hbox hb; replace HB := zm (below_step (zj78 HB) hb); have BK694 := zm (hbox); have GW694 := zge hg (keep_size (w := w) (g := g) (row := none) (zk HK)); have GE694 := zm ((Nat.le_trans HW0.out (by rw [hg]; exact (keep_size (w := w) (g := g) (row := none) (zk HK)) : w.heap.size ≤ gb694) : w0.heap.size ≤ gb694)); replace HK := zkB HK hb; obtain ⟨NB0_694, NB694_0⟩ := znn hg (IsS78.lt (show IsS78 w0 _ g s0_0 s0_1 s0_2 from zi78 HI0)); replace HI0 := zm (IsS78.below (zi78 HI0) hb); clear hb hbox hg) | ((with_reducible refine gate_callee (f := 72) rfl ?_); refine zgl 7 Try.func72 #[.pointer (some ⟨g, 0, none⟩)] ?_; refine (F22.calls k g s0_0 s0_1 s0_2 t695 t696 t697 w0 _ (zi78 HI0) (zj78 HB) A2.out).mono ?_; rintro e w5 ⟨rfl, hi, hb, hk⟩; refine ⟨_, rfl, ?_⟩; replace BK694 := zkb BK694 NB694_0 hk; replace HK := zkt HK hk; replace HB := zm (hb); replace HI0 := zm (hi); (try clear hb hk hi)) | ((with_reducible refine gate_dst (N := 3) rfl ?_); refine box_event (by rfl) (N := 3) (by rfl) (cs := #[.string (⟨#[]⟩ : ByteArray), .slice none 0 0]) (t := 31) zgs ?_; intro gb698 hg w6 hbox hb; replace HB := zm (below_step (zj78 HB) hb); have BK698 := zm (hbox); have GW698 := zge hg (keep_size (w := w) (g := g) (row := none) (zk HK)); have GE698 := zm ((Nat.le_trans HW0.out (by rw [hg]; exact (keep_size (w := w) (g := g) (row := none) (zk HK)) : w.heap.size ≤ gb698) : w0.heap.size ≤ gb698)); replace HK := zkB HK hb; obtain ⟨NB694_698, NB698_694⟩ := znn hg (blk_lt (zb BK694)); replace BK694 := zbb BK694 hb; obtain ⟨NB0_698, NB698_0⟩ := znn hg (IsS78.lt (show IsS78 w0 _ g s0_0 t696 t697 from zi78 HI0)); replace HI0 := zm (IsS78.below (zi78 HI0) hb); clear hb hbox hg; obtain ⟨_, _⟩ := zne NB698_694; obtain ⟨_, _⟩ := zne NB698_0; obtain ⟨⟨hcz9_0, hcz9_1⟩, hfz9_0, hfz9_1⟩ := zc2 BK698) | ((with_reducible refine gate_callee (f := 73) rfl ?_); refine zgl 10 Try.func73 #[.pointer (some ⟨g, 0, none⟩), .int .i64 4096] ?_; refine (F12.calls k g s0_0 t696 t697 4096 t699 t700 t701 w0 _ (zi78 HI0) (zj78 HB) A3.out).mono ?_; rintro e w10 ⟨rfl, hi, hb, hk⟩; refine ⟨_, rfl, ?_⟩; replace BK694 := zm (KeepBut.blk hk (g' := gb694) (o := .cells #[.string (⟨#[]⟩ : ByteArray), .slice none 0 0] 31 (0, 0)) (zp BK694) NB694_0.out (by simp)); replace BK698 := zm (KeepBut.blk hk (g' := gb698) (o := .cells #[.string t695, .slice none 0 0] 31 (0, 0)) (zp BK698) NB698_0.out (by simp)); replace HK := zkt HK hk; replace HB := zm (hb); replace HI0 := zm (hi); (try clear hb hk hi)))
 go_loopg [11] k (fun kq v11 w' => ∃ (x11_1 : Int) (x1001_1 : Int) (x1002_1 : Bool) (x695000_1 : ByteArray) (x699001_1 : List (S66)) (u699001 : Value), v11 = .int .i64 x11_1 ∧ Aside0 (F2.l0 kq t699 x11_1 s0_0 x1001_1 x1002_1 t695 x699001_1 = some (r1, r2, r3, r4)) ∧ Aside0 (kq ≤ k) ∧ Aside0 (Kd.S k66 66 w' w.heap.size (fun _ => True) u699001 x699001_1) ∧ Aside0 (w'.heap[gb694]? = some (.cells #[.string x695000_1, (.slice none 0 0)] 31 (0, 0))) ∧ Aside0 (w'.heap[gb698]? = some (.cells #[.string t695, u699001] 31 (0, 0))) ∧ Aside0 (IsS78 w0 w' g s0_0 x1001_1 x1002_1) ∧ Aside0 (KeepBut w w' g none) ∧ Aside0 (Below w0.heap.size w0 w'))
 case atStart => exact ⟨(0), (t700), (t701), ((⟨#[]⟩ : ByteArray)), (([] : List (S66))), (.slice none 0 0), zrs, H', ⟨Nat.le_refl _⟩, ⟨by first | exact Kd.S_nil _ _ _ _ _ | exact Kd.N_nil _ _ _ _ _ | exact Kd.V_nil _ _ _ _ _ | exact Kd.Q_nil _ _ _ _ _ | exact Kd.R_nil _ _ _ _ _⟩, ⟨zb BK694⟩, ⟨zb BK698⟩, ⟨zi78 HI0⟩, ⟨zk HK⟩, ⟨zj78 HB⟩⟩
 case round =>
  clear H'
  try clear hcz9_0 hcz9_1 hfz9_0 hfz9_1
  obtain ⟨x11_1, x1001_1, x1002_1, x695000_1, x699001_1, u699001, rfl, HA, HK1, HO_699001, BK694, BK698, HI0, HK, HB⟩ := hrel
  cases gk with
  | zero => exact absurd HA.out (by simp [F2.l0])
  | succ k1 =>
   have H := HA.out
   clear HA
   simp only [F2.l0] at H
   by_cases c11 : x11_1 < t699
   rotate_left
   ·rw [if_neg c11] at H
    have c11b0 := decide_eq_false c11
    clear c11
    simp only [Option.some.injEq, Prod.mk.injEq] at H
    obtain ⟨rfl, rfl, rfl, rfl⟩ := H
    obtain ⟨_, _⟩ := zne NB698_694
    obtain ⟨_, _⟩ := zne NB698_0
    obtain ⟨⟨_, _⟩, _, _⟩ := zc2 BK698
    obtain ⟨_, _⟩ := zne NB694_0
    obtain ⟨⟨_, _⟩, _, _⟩ := zc2 BK694
    obtain ⟨Ao137, co137, eo137⟩ := Kd.S_slice HO_699001.out
    subst eo137
    go_wp2
    refine bodyPost_ret (results_cell_row rfl _ _ gb694 31 #[.string t695, .slice Ao137 x699001_1.length co137] (0, 0) _ rfl (zp BK694) Try.underlying31 rfl (by kernel_rfl)) rfl ?_
    exact ⟨_, zre, zxS (Kd.S_mono (zfS gb694 1 (zfS gb694 0 (Kd.S_types HO_699001.out BK694.out (by decide)) (.string t695)) (.slice Ao137 x699001_1.length co137)) (fun _ hk => trivial)), zi78 HI0, zj78 HB, zk HK⟩

   rw [if_pos c11] at H
   have c11b0 := decide_eq_true c11
   clear c11
   replace H := zbi H
   obtain ⟨⟨t702, t703, t704⟩, A12, H⟩ := H
   try dsimp only at H
   replace H := zbi H
   obtain ⟨⟨t706, t707, t708⟩, A13, H⟩ := H
   try dsimp only at H
   have H' := zm H
   clear H
   go_wp2_with (first | ((with_reducible refine gate_callee (f := 72) rfl ?_); refine zgl 14 Try.func72 #[.pointer (some ⟨g, 0, none⟩)] ?_; refine (F22.calls k1 g s0_0 x1001_1 x1002_1 t702 t703 t704 w0 _ (zi78 HI0) (zj78 HB) A12.out).mono ?_; rintro e w14 ⟨rfl, hi, hb, hk⟩; refine ⟨_, rfl, ?_⟩; replace HO_699001 := zKS78 HI0 HO_699001 hk; replace BK694 := zkb BK694 NB694_0 hk; replace BK698 := zkb BK698 NB698_0 hk; replace HK := zkt HK hk; replace HB := zm (hb); replace HI0 := zm (hi); (try clear hb hk hi)) | ((with_reducible refine gate_dst (N := 4) rfl ?_); refine box_event (by rfl) (N := 4) (by rfl) (cs := #[.string (⟨#[]⟩ : ByteArray), .slice none 0 0, .slice none 0 0]) (t := 66) zgs ?_; intro gb705 hg w15 hbox hb; replace HO_699001 := zm (Kd.S_below (Kd.S_elderB (zs HO_699001) gb705 (Nat.le_of_eq hg.symm)) hb); replace HB := zm (below_step (zj78 HB) hb); have BK705 := zm (hbox); have GW705 := zge hg (keep_size (w := w) (g := g) (row := none) (zk HK)); have GE705 := zm ((Nat.le_trans HW0.out (by rw [hg]; exact (keep_size (w := w) (g := g) (row := none) (zk HK)) : w.heap.size ≤ gb705) : w0.heap.size ≤ gb705)); replace HK := zkB HK hb; obtain ⟨NB694_705, NB705_694⟩ := znn hg (blk_lt (zb BK694)); replace BK694 := zbb BK694 hb; obtain ⟨NB698_705, NB705_698⟩ := znn hg (blk_lt (zb BK698)); replace BK698 := zbb BK698 hb; obtain ⟨NB0_705, NB705_0⟩ := znn hg (IsS78.lt (show IsS78 w0 _ g s0_0 t703 t704 from zi78 HI0)); replace HI0 := zm (IsS78.below (zi78 HI0) hb); clear hb hbox hg; obtain ⟨_, _⟩ := zne NB705_694; obtain ⟨_, _⟩ := zne NB705_698; obtain ⟨_, _⟩ := zne NB705_0; obtain ⟨⟨hcz19_0, hcz19_1, hcz19_2⟩, hfz19_0, hfz19_1, hfz19_2⟩ := zc3 BK705) | ((with_reducible refine gate_callee (f := 73) rfl ?_); refine zgl 17 Try.func73 #[.pointer (some ⟨g, 0, none⟩), .int .i64 4096] ?_; refine (F12.calls k1 g s0_0 t703 t704 4096 t706 t707 t708 w0 _ (zi78 HI0) (zj78 HB) A13.out).mono ?_; rintro e w20 ⟨rfl, hi, hb, hk⟩; refine ⟨_, rfl, ?_⟩; replace HO_699001 := zm (Kd.S_mono (Kd.S_keep (IsS78.apartS (show IsS78 w0 _ g s0_0 t703 t704 from zi78 HI0) (by (with_reducible repeat (first | apply Kd.S_alloc | apply Kd.S_drewN | apply Kd.S_drew)); exact (Kd.S_mono (zfS gb705 2 (zfS gb705 1 (zfS gb705 0 (Kd.S_mono HO_699001.out (fun k_ hk => (⟨hk, hk.2⟩ : _ ∧ k_ ≠ gb705))) (.string t702)) (.slice none 0 0)) (.slice none 0 0)) (fun _ h_ => h_.1))) (by decide)) hk (fun _ h => h.2)) (fun _ h => h.1)); replace BK694 := zm (KeepBut.blk hk (g' := gb694) (o := .cells #[.string x695000_1, .slice none 0 0] 31 (0, 0)) (zp BK694) NB694_0.out (by simp)); replace BK698 := zm (KeepBut.blk hk (g' := gb698) (o := .cells #[.string t695, u699001] 31 (0, 0)) (zp BK698) NB698_0.out (by simp)); replace BK705 := zm (KeepBut.blk hk (g' := gb705) (o := .cells #[.string t702, .slice none 0 0, .slice none 0 0] 66 (0, 0)) (zp BK705) NB705_0.out (by simp)); replace HK := zkt HK hk; replace HB := zm (hb); replace HI0 := zm (hi); (try clear hb hk hi)))
   go_loopg [18] k1 (fun kq v18 w' => ∃ (x18_2 : Int) (x1001_2 : Int) (x1002_2 : Bool) (x695000_2 : ByteArray) (x706001_2 : List ByteArray) (u706001 : Value), v18 = .int .i64 x18_2 ∧ Aside0 (F2.l1 kq t699 x11_1 t706 x18_2 s0_0 x1001_2 x1002_2 t695 x699001_1 t702 x706001_2 = some (r1, r2, r3, r4)) ∧ Aside0 (kq ≤ k1) ∧ Aside0 (Kd.S k66 66 w' w.heap.size (fun k_ => some k_ ≠ (u706001 : Value).ownBlock ∧ k_ ≠ gb705) u699001 x699001_1) ∧ Aside0 (Kd.R Kd.string 9 w' w.heap.size (fun _ => True) u706001 x706001_2) ∧ Aside0 (w'.heap[gb694]? = some (.cells #[.string x695000_2, (.slice none 0 0)] 31 (0, 0))) ∧ Aside0 (w'.heap[gb698]? = some (.cells #[.string t695, u699001] 31 (0, 0))) ∧ Aside0 (w'.heap[gb705]? = some (.cells #[.string t702, u706001, (.slice none 0 0)] 66 (0, 0))) ∧ Aside0 (IsS78 w0 w' g s0_0 x1001_2 x1002_2) ∧ Aside0 (KeepBut w w' g none) ∧ Aside0 (Below w0.heap.size w0 w'))
   case atStart => exact ⟨(0), (t707), (t708), (x695000_1), (([] : List ByteArray)), (.slice none 0 0), zrs, H', ⟨Nat.le_refl _⟩, ⟨Kd.S_mono (zs HO_699001) (fun _ hk => ⟨(by simp [Value.ownBlock]), hk.2⟩)⟩, ⟨by first | exact Kd.R_nil _ _ _ _ _ | exact Kd.N_nil _ _ _ _ _ | exact Kd.V_nil _ _ _ _ _ | exact Kd.Q_nil _ _ _ _ _ | exact Kd.S_nil _ _ _ _ _⟩, ⟨zb BK694⟩, ⟨zb BK698⟩, ⟨zb BK705⟩, ⟨zi78 HI0⟩, ⟨zk HK⟩, ⟨zj78 HB⟩⟩
   case round =>
    clear H'
    try clear c11
    try clear c11b0
    try clear hcz19_0 hcz19_1 hcz19_2
    try clear hcz9_0 hcz9_1
    try clear hfz19_0 hfz19_1 hfz19_2
    try clear hfz9_0 hfz9_1
    obtain ⟨x18_2, x1001_2, x1002_2, x695000_2, x706001_2, u706001, rfl, HA, HK2, HO_699001, HO_706001, BK694, BK698, BK705, HI0, HK, HB⟩ := hrel
    cases gk with
    | zero => exact absurd HA.out (by simp [F2.l1])
    | succ k2 =>
     have H := HA.out
     clear HA
     simp only [F2.l1] at H
     by_cases c21 : x18_2 < t706
     ·rw [if_pos c21] at H
      have c21b0 := decide_eq_true c21
      clear c21
      replace H := zbi H
      obtain ⟨⟨t709, t710, t711⟩, A22, H⟩ := H
      try dsimp only at H
      replace H := zif H
      obtain ⟨c23, H⟩ := H
      have LMc23 := zm c23
      clear c23
      obtain ⟨y712, hy712⟩ : ∃ y_ : List ByteArray, y_ = (x706001_2 ++ [t709]) := ⟨_, rfl⟩
      replace H : (if t711 = true then (some (t695, x699001_1, t710, t711)) else (F2.l1 k2 t699 x11_1 t706 (wrap64 (x18_2 + 1)) s0_0 t710 t711 t695 x699001_1 t702 y712)) = some (r1, r2, r3, r4) := zby hy712 H
      have Ny712 := zm hy712
      clear hy712
      by_cases c24 : t711 = true
      rotate_left
      ·replace c24 := Bool.eq_false_iff.mpr c24
       subst c24
       rw [if_neg (show ¬ (false = true) by decide)] at H
       have H' := zm H
       clear H
       try go_wp2
       replace HO_699001 := zm (Kd.S_drew HO_699001.out)
       replace HO_706001 := zm (Kd.R_drew HO_706001.out)
       replace BK694 := zm (blk_drew BK694.out)
       replace BK698 := zm (blk_drew BK698.out)
       replace BK705 := zm (blk_drew BK705.out)
       replace HI0 := zm (IsS78.drew HI0.out)
       replace HK := zm (keep_drew HK.out)
       replace HB := zm (below_drew1 HB.out)
       refine start_ (n := 8) (S := fun w' => w'.cell? ⟨gb705, 0, none⟩ = some (.string t702) ∧ w'.cell? ⟨gb705, 1, none⟩ = some (u706001) ∧ w'.cell? ⟨gb705, 2, none⟩ = some (.slice none 0 0)) (ds := [7]) (fl15_ 8 0) (by kernel_rfl) rfl rfl ⟨zd BK705 0, zd BK705 1, zd BK705 2⟩ (fun hHeld => ?_); refine with_tabW F2.tab7 F2.bits7 (fun HT_ HW_ => ?_)
       generalize wr.drew = w39 at HO_699001 HO_706001 BK694 BK698 BK705 HI0 HK HB hHeld ⊢
       refine zpu HT_ 0 20 (fl15_ 8 1) ?_
       refine zpu HT_ 2 22 (fl15_ 8 5) ?_
       refine ztk HT_ HW_ 1 21 (fl15_ 8 7) hHeld ?_
       refine zon HT_ 3 23 (fl15_ 8 15) (fun K hK => ?_)
       refine goes_ Try.func72 (by kernel_rfl) rfl #[.pointer (some ⟨g, 0, none⟩)] (by rfl) rfl rfl zar ?_
       refine (F22.calls k2 g s0_0 x1001_2 x1002_2 t709 t710 false w0 _ (zi78 HI0) (zj78 HB) A22.out).mono ?_
       rintro e w40 ⟨rfl, hi, hb, hk⟩
       refine ⟨_, rfl, ?_⟩
       replace HO_699001 := zKS78 HI0 HO_699001 hk
       replace HO_706001 := zKR78 HI0 HO_706001 hk
       replace BK694 := zkb BK694 NB694_0 hk
       replace BK698 := zkb BK698 NB698_0 hk
       replace BK705 := zkb BK705 NB705_0 hk
       replace HK := zkt HK hk
       replace HB := zm (hb)
       replace HI0 := zm (hi)
       (try clear hb hk hi)
       refine hK.out _ _ ⟨zd BK705 0, zd BK705 1, zd BK705 2⟩ (fun hHeld => ?_)
       clear hK K
       refine norm_ zac ?_
       refine zon HT_ 4 24 (fl15_ 8 31) (fun K hK => ?_)
       refine value_ (w1 := ?_) (v := ?_) (by rfl) rfl ?_ ?_
       rotate_left 2
       ·go_simp
        constructor
        ·rfl
        ·rfl
       refine hK.out _ _ ⟨(blk_cell (blk_alloc BK705.out _) 0).trans rfl, (blk_cell (blk_alloc BK705.out _) 1).trans rfl, (blk_cell (blk_alloc BK705.out _) 2).trans rfl⟩ (fun hHeld => ?_)
       clear hK K
       refine norm_ zac ?_
       refine zon HT_ 5 25 (fl15_ 8 63) (fun K hK => ?_)
       refine Kd.R_append_step Kd.string w.heap.size (by rfl) (.tmp 21) (.tmp 24) 64 9 (.string ⟨#[]⟩) 16 rfl Try.underlying64 info9 rfl (by decide) (by omega) u706001 x706001_2 t709 [.string t709] (fun _ => True) (fun _ => False) rfl rfl ?aP (fun _ hk => hk.elim) ?aF ?aO (Below.refl _ _) ?aS ?aL ?_
       (case aP => exact rfl)
       (case aF => exact (fun _ _ => trivial))
       (case aO => exact (zr HO_706001))
       (case aS => exact (keep_size (w := w) (g := g) (row := none) (zk HK)))
       (case aL => have := LMc23.out; omega)
       intro v713 w41 ho hb hg hat
       rw [← Ny712.out] at ho
       replace HO_699001 := zm (Kd.S_after (ok := (fun k_ => k_ ≠ gb705)) (Kd.S_mono (zs HO_699001) (fun _ hk => ⟨hk.2, hk.1⟩)) hg hat)
       replace BK694 := zm (blk_grown (zb BK694) hg (Kd.R_ne HO_706001.out BK694.out (by decide)))
       replace BK698 := zm (blk_grown (zb BK698) hg (Kd.R_ne HO_706001.out BK698.out (by decide)))
       replace BK705 := zm (blk_grown (zb BK705) hg (Kd.R_ne HO_706001.out BK705.out (by decide)))
       replace HI0 := zm (IsS78.grown (zi78 HI0) hg (IsS78.own_ne HI0.out HO_706001.out (by decide)))
       replace HB := zm (below_weaken (zj78 HB) HL.out hb)
       replace HK := zm (KeepBut.trans (zk HK) (KeepBut.of_grown hg g) (Kd.R_base2 HO_706001.out))
       have HO714 := zm (ho)
       clear HO_706001
       clear ho hb hg hat
       obtain ⟨Ao42, co42, eo42⟩ := Kd.R_slice HO714.out
       (first | subst eo42 | (injection eo42 with f1_ f2_ f3_; have f4_ := f1_.symm; have f5_ := f3_.symm; clear f1_ f2_ f3_; subst f4_; subst f5_))
       refine hK.out _ _ ⟨zd BK705 0, zd BK705 1, zd BK705 2⟩ (fun hHeld => ?_)
       clear hK K
       refine norm_ zac ?_
       refine zpu HT_ 6 26 (fl15_ 8 127) ?_
       refine last_ (i := 7) (N := none) (fl15_ 8 255) rfl rfl (one_of HT_.out (by kernel_rfl)) (by decide) (fun K hK => ?_)
       have hs43 : w41.cell? ⟨gb705, 1, none⟩ = some (u706001) := zd BK705 1
       have hfs43 := blk_frozen BK705.out 1
       have hns43_0 := NB694_705.out
       have hns43_1 := NB698_705.out
       have hms43_0 := NB705_694.out
       have hms43_1 := NB705_698.out
       refine skip_ (w1 := ?_) (by rfl) rfl ?_ ?_
       rotate_left
       ·go_simp
        rfl
       refine hK.out _ _ ?_
       clear hK K
       refine done_ (done_of HT_.out (by kernel_rfl)) ?_
       obtain ⟨ASz44_0, cSz44_0, HGz44, hgz44, HSz44_0⟩ := HI0.out
       have hcz44_0 := cellS78_0 HGz44
       have hcz44_1 := cellS78_1 HGz44
       have hcz44_2 := cellS78_2 HGz44
       have hfz44_1 := blk_frozen HGz44 1
       have hfz44_2 := blk_frozen HGz44 2
       clear HGz44 hgz44
       try go_wp2
       go_roundg k2
       case measure => have := HK1.out; have := HK2.out; omega
       case rel => exact ⟨(wrap64 (x18_2 + 1)), (t710), (false), (x695000_2), (y712), (.slice Ao42 y712.length co42), zrs, H', ⟨by have := HK1.out; have := HK2.out; omega⟩, ⟨by (with_reducible repeat (first | apply Kd.S_alloc | apply Kd.S_drewN | apply Kd.S_drew)); exact Kd.S_mono (zfS gb705 1 (Kd.S_mono HO_699001.out (fun k_ hk => (⟨hk, hk.1⟩ : _ ∧ k_ ≠ gb705))) (.slice Ao42 y712.length co42)) (fun _ hk => ⟨hk.1.2, hk.1.1⟩)⟩, ⟨by (with_reducible repeat (first | apply Kd.R_alloc | apply Kd.R_drewN | apply Kd.R_drew)); exact Kd.R_mono (Kd.R_far (p := ⟨gb705, 1, none⟩) (Kd.R_types HO714.out BK705.out (by decide)) (fun _ hk => hk.2) (.slice Ao42 y712.length co42)) (fun _ hk => trivial)⟩, ⟨zp BK694⟩, ⟨zp BK698⟩, ⟨zp BK705⟩, ⟨zi78 HI0⟩, ⟨zk HK⟩, ⟨zj78 HB⟩⟩
      subst c24
      rw [if_pos rfl] at H
      simp only [Option.some.injEq, Prod.mk.injEq] at H
      obtain ⟨rfl, rfl, rfl, rfl⟩ := H
      try go_wp2
      replace HO_699001 := zm (Kd.S_drew HO_699001.out)
      replace HO_706001 := zm (Kd.R_drew HO_706001.out)
      replace BK694 := zm (blk_drew BK694.out)
      replace BK698 := zm (blk_drew BK698.out)
      replace BK705 := zm (blk_drew BK705.out)
      replace HI0 := zm (IsS78.drew HI0.out)
      replace HK := zm (keep_drew HK.out)
      replace HB := zm (below_drew1 HB.out)
      refine start_ (n := 8) (S := fun w' => w'.cell? ⟨gb705, 0, none⟩ = some (.string t702) ∧ w'.cell? ⟨gb705, 1, none⟩ = some (u706001) ∧ w'.cell? ⟨gb705, 2, none⟩ = some (.slice none 0 0)) (ds := [7]) (fl15_ 8 0) (by kernel_rfl) rfl rfl ⟨zd BK705 0, zd BK705 1, zd BK705 2⟩ (fun hHeld => ?_); refine with_tabW F2.tab7 F2.bits7 (fun HT_ HW_ => ?_)
      generalize wr.drew = w25 at HO_699001 HO_706001 BK694 BK698 BK705 HI0 HK HB hHeld ⊢
      refine zpu HT_ 0 20 (fl15_ 8 1) ?_
      refine zpu HT_ 2 22 (fl15_ 8 5) ?_
      refine ztk HT_ HW_ 1 21 (fl15_ 8 7) hHeld ?_
      refine zon HT_ 3 23 (fl15_ 8 15) (fun K hK => ?_)
      refine goes_ Try.func72 (by kernel_rfl) rfl #[.pointer (some ⟨g, 0, none⟩)] (by rfl) rfl rfl zar ?_
      refine (F22.calls k2 g s0_0 x1001_2 x1002_2 t709 t710 true w0 _ (zi78 HI0) (zj78 HB) A22.out).mono ?_
      rintro e w26 ⟨rfl, hi, hb, hk⟩
      refine ⟨_, rfl, ?_⟩
      replace HO_699001 := zKS78 HI0 HO_699001 hk
      replace HO_706001 := zKR78 HI0 HO_706001 hk
      replace BK694 := zkb BK694 NB694_0 hk
      replace BK698 := zkb BK698 NB698_0 hk
      replace BK705 := zkb BK705 NB705_0 hk
      replace HK := zkt HK hk
      replace HB := zm (hb)
      replace HI0 := zm (hi)
      (try clear hb hk hi)
      refine hK.out _ _ ⟨zd BK705 0, zd BK705 1, zd BK705 2⟩ (fun hHeld => ?_)
      clear hK K
      refine norm_ zac ?_
      refine zon HT_ 4 24 (fl15_ 8 31) (fun K hK => ?_)
      refine value_ (w1 := ?_) (v := ?_) (by rfl) rfl ?_ ?_
      rotate_left 2
      ·go_simp
       constructor
       ·rfl
       ·rfl
      refine hK.out _ _ ⟨(blk_cell (blk_alloc BK705.out _) 0).trans rfl, (blk_cell (blk_alloc BK705.out _) 1).trans rfl, (blk_cell (blk_alloc BK705.out _) 2).trans rfl⟩ (fun hHeld => ?_)
      clear hK K
      refine norm_ zac ?_
      refine zon HT_ 5 25 (fl15_ 8 63) (fun K hK => ?_)
      refine Kd.R_append_step Kd.string w.heap.size (by rfl) (.tmp 21) (.tmp 24) 64 9 (.string ⟨#[]⟩) 16 rfl Try.underlying64 info9 rfl (by decide) (by omega) u706001 x706001_2 t709 [.string t709] (fun _ => True) (fun _ => False) rfl rfl ?aP (fun _ hk => hk.elim) ?aF ?aO (Below.refl _ _) ?aS ?aL ?_
      (case aP => exact rfl)
      (case aF => exact (fun _ _ => trivial))
      (case aO => exact (zr HO_706001))
      (case aS => exact (keep_size (w := w) (g := g) (row := none) (zk HK)))
      (case aL => have := LMc23.out; omega)
      intro v713 w27 ho hb hg hat
      rw [← Ny712.out] at ho
      replace HO_699001 := zm (Kd.S_after (ok := (fun k_ => k_ ≠ gb705)) (Kd.S_mono (zs HO_699001) (fun _ hk => ⟨hk.2, hk.1⟩)) hg hat)
      replace BK694 := zm (blk_grown (zb BK694) hg (Kd.R_ne HO_706001.out BK694.out (by decide)))
      replace BK698 := zm (blk_grown (zb BK698) hg (Kd.R_ne HO_706001.out BK698.out (by decide)))
      replace BK705 := zm (blk_grown (zb BK705) hg (Kd.R_ne HO_706001.out BK705.out (by decide)))
      replace HI0 := zm (IsS78.grown (zi78 HI0) hg (IsS78.own_ne HI0.out HO_706001.out (by decide)))
      replace HB := zm (below_weaken (zj78 HB) HL.out hb)
      replace HK := zm (KeepBut.trans (zk HK) (KeepBut.of_grown hg g) (Kd.R_base2 HO_706001.out))
      have HO714 := zm (ho)
      clear HO_706001
      clear ho hb hg hat
      obtain ⟨Ao28, co28, eo28⟩ := Kd.R_slice HO714.out
      (first | subst eo28 | (injection eo28 with f1_ f2_ f3_; have f4_ := f1_.symm; have f5_ := f3_.symm; clear f1_ f2_ f3_; subst f4_; subst f5_))
      refine hK.out _ _ ⟨zd BK705 0, zd BK705 1, zd BK705 2⟩ (fun hHeld => ?_)
      clear hK K
      refine norm_ zac ?_
      refine zpu HT_ 6 26 (fl15_ 8 127) ?_
      refine last_ (i := 7) (N := none) (fl15_ 8 255) rfl rfl (one_of HT_.out (by kernel_rfl)) (by decide) (fun K hK => ?_)
      have hs29 : w27.cell? ⟨gb705, 1, none⟩ = some (u706001) := zd BK705 1
      have hfs29 := blk_frozen BK705.out 1
      have hns29_0 := NB694_705.out
      have hns29_1 := NB698_705.out
      have hms29_0 := NB705_694.out
      have hms29_1 := NB705_698.out
      refine skip_ (w1 := ?_) (by rfl) rfl ?_ ?_
      rotate_left
      ·go_simp
       rfl
      refine hK.out _ _ ?_
      clear hK K
      refine done_ (done_of HT_.out (by kernel_rfl)) ?_
      obtain ⟨ASz30_0, cSz30_0, HGz30, hgz30, HSz30_0⟩ := HI0.out
      have hcz30_0 := cellS78_0 HGz30
      have hcz30_1 := cellS78_1 HGz30
      have hcz30_2 := cellS78_2 HGz30
      have hfz30_1 := blk_frozen HGz30 1
      have hfz30_2 := blk_frozen HGz30 2
      clear HGz30 hgz30
      obtain ⟨_, _⟩ := zne NB698_694
      obtain ⟨_, _⟩ := zne NB698_705
      obtain ⟨_, _⟩ := zne NB698_0
      obtain ⟨⟨_, _⟩, _, _⟩ := zc2 BK698
      obtain ⟨_, _⟩ := zne NB694_705
      obtain ⟨_, _⟩ := zne NB694_0
      obtain ⟨⟨_, _⟩, _, _⟩ := zc2 BK694
      obtain ⟨Ao38, co38, eo38⟩ := Kd.S_slice HO_699001.out
      subst eo38
      try go_wp2
      refine bodyPost_ret (results_cell_row rfl _ _ gb694 31 #[.string t695, .slice Ao38 x699001_1.length co38] (0, 0) _ rfl (zp BK694) Try.underlying31 rfl (by kernel_rfl)) rfl ?_
      exact ⟨_, zre, zxS (Kd.S_mono (zfS gb694 1 (zfS gb694 0 (Kd.S_far (p := ⟨gb705, 1, none⟩) (Kd.S_types (Kd.S_mono HO_699001.out (fun k_ hk => (⟨hk, hk.1⟩ : _ ∧ k_ ≠ gb705))) BK694.out (by decide)) (fun _ hk => hk.1.2) (.slice Ao28 y712.length co28)) (.string t695)) (.slice Ao38 x699001_1.length co38)) (fun _ hk => trivial)), zi78 HI0, zj78 HB, zk HK⟩
     rw [if_neg c21] at H
     have c21b0 := decide_eq_false c21
     clear c21
     replace H := zbi H
     obtain ⟨⟨t715, t716, t717⟩, A45, H⟩ := H
     try dsimp only at H
     have H' := zm H
     clear H
     go_wp2_with (first | ((with_reducible refine gate_callee (f := 73) rfl ?_); refine zgl 34 Try.func73 #[.pointer (some ⟨g, 0, none⟩), .int .i64 4096] ?_; refine (F12.calls k2 g s0_0 x1001_2 x1002_2 4096 t715 t716 t717 w0 _ (zi78 HI0) (zj78 HB) A45.out).mono ?_; rintro e w46 ⟨rfl, hi, hb, hk⟩; refine ⟨_, rfl, ?_⟩; replace HO_699001 := zKS78 HI0 HO_699001 hk; replace HO_706001 := zKR78 HI0 HO_706001 hk; replace BK694 := zkb BK694 NB694_0 hk; replace BK698 := zkb BK698 NB698_0 hk; replace BK705 := zkb BK705 NB705_0 hk; replace HK := zkt HK hk; replace HB := zm (hb); replace HI0 := zm (hi); (try clear hb hk hi)))
     go_loopg [35] k2 (fun kq v35 w' => ∃ (x35_3 : Int) (x1001_3 : Int) (x1002_3 : Bool) (x695000_3 : ByteArray) (x706002_3 : List Int) (u706002 : Value), v35 = .int .i64 x35_3 ∧ Aside0 (F2.l2 kq t699 x11_1 t715 x35_3 s0_0 x1001_3 x1002_3 t695 x699001_1 t702 x706001_2 x706002_3 = some (r1, r2, r3, r4)) ∧ Aside0 (kq ≤ k2) ∧ Aside0 (Kd.S k66 66 w' w.heap.size (fun k_ => some k_ ≠ (u706001 : Value).ownBlock ∧ some k_ ≠ (u706002 : Value).ownBlock ∧ k_ ≠ gb705) u699001 x699001_1) ∧ Aside0 (Kd.R Kd.string 9 w' w.heap.size (fun _ => True) u706001 x706001_2) ∧ Aside0 (Kd.R (Kd.int .i64) 3 w' w.heap.size (fun _ => True) u706002 x706002_3) ∧ Aside0 (w'.heap[gb694]? = some (.cells #[.string x695000_3, (.slice none 0 0)] 31 (0, 0))) ∧ Aside0 (w'.heap[gb698]? = some (.cells #[.string t695, u699001] 31 (0, 0))) ∧ Aside0 (w'.heap[gb705]? = some (.cells #[.string t702, u706001, u706002] 66 (0, 0))) ∧ Aside0 (IsS78 w0 w' g s0_0 x1001_3 x1002_3) ∧ Aside0 (KeepBut w w' g none) ∧ Aside0 (Below w0.heap.size w0 w'))
     case atStart => exact ⟨(0), (t716), (t717), (x695000_2), (([] : List Int)), (.slice none 0 0), zrs, H', ⟨Nat.le_refl _⟩, ⟨Kd.S_mono (zs HO_699001) (fun _ hk => ⟨hk.1, ⟨(by simp [Value.ownBlock]), hk.2⟩⟩)⟩, ⟨zr HO_706001⟩, ⟨by first | exact Kd.R_nil _ _ _ _ _ | exact Kd.N_nil _ _ _ _ _ | exact Kd.V_nil _ _ _ _ _ | exact Kd.Q_nil _ _ _ _ _ | exact Kd.S_nil _ _ _ _ _⟩, ⟨zb BK694⟩, ⟨zb BK698⟩, ⟨zb BK705⟩, ⟨zi78 HI0⟩, ⟨zk HK⟩, ⟨zj78 HB⟩⟩
     case round =>
      clear H'
      try clear c11
      try clear c11b0
      try clear c21
      try clear c21b0
      try clear hcz19_0 hcz19_1 hcz19_2
      try clear hcz9_0 hcz9_1
      try clear hfz19_0 hfz19_1 hfz19_2
      try clear hfz9_0 hfz9_1
      obtain ⟨x35_3, x1001_3, x1002_3, x695000_3, x706002_3, u706002, rfl, HA, HK3, HO_699001, HO_706001, HO_706002, BK694, BK698, BK705, HI0, HK, HB⟩ := hrel
      cases gk with
      | zero => exact absurd HA.out (by simp [F2.l2])
      | succ k3 =>
       have H := HA.out
       clear HA
       simp only [F2.l2] at H
       by_cases c47 : x35_3 < t715
       rotate_left
       ·rw [if_neg c47] at H
        have c47b0 := decide_eq_false c47
        clear c47
        replace H := zif H
        obtain ⟨c102, H⟩ := H
        have LMc102 := zm c102
        clear c102
        obtain ⟨y718, hy718⟩ : ∃ y_ : List (S66), y_ = (x699001_1 ++ [(⟨t702, x706001_2, x706002_3⟩ : S66)]) := ⟨_, rfl⟩
        replace H : (if x1002_3 = true then (some (t695, y718, x1001_3, x1002_3)) else (F2.l0 k3 t699 (wrap64 (x11_1 + 1)) s0_0 x1001_3 x1002_3 t695 y718)) = some (r1, r2, r3, r4) := zby hy718 H
        have Ny718 := zm hy718
        clear hy718
        by_cases c103 : x1002_3 = true
        rotate_left
        ·replace c103 := Bool.eq_false_iff.mpr c103
         subst c103
         rw [if_neg (show ¬ (false = true) by decide)] at H
         have H' := zm H
         clear H
         obtain ⟨_, _⟩ := zne NB698_694
         obtain ⟨_, _⟩ := zne NB698_705
         obtain ⟨_, _⟩ := zne NB698_0
         obtain ⟨⟨_, _⟩, _, _⟩ := zc2 BK698
         obtain ⟨_, _⟩ := zne NB705_694
         obtain ⟨_, _⟩ := zne NB705_0
         obtain ⟨⟨_, _, _⟩, _, _, _⟩ := zc3 BK705
         obtain ⟨Ao127, co127, eo127⟩ := Kd.R_slice HO_706001.out
         subst eo127
         obtain ⟨Ao128, co128, eo128⟩ := Kd.R_slice HO_706002.out
         subst eo128
         go_wp2_with (first | ((with_reducible refine gate_builtin (b := .append) (xs := #[.tmp 59, .tmp 61]) rfl ?_); at_builtin; refine Kd.S_append k66 w.heap.size rfl (.tmp 59) (.tmp 61) 29 66 (.agg #[(.string ⟨#[]⟩), (.slice none 0 0), (.slice none 0 0)]) 64 rfl Try.underlying29 info66 rfl (by decide) (by omega) u699001 x699001_1 (⟨t702, x706001_2, x706002_3⟩ : S66) [.string t702, .slice Ao127 x706001_2.length co127, .slice Ao128 x706002_3.length co128] (fun k_ => k_ ≠ gb705) (fun k_ => some k_ = (.slice Ao127 x706001_2.length co127 : Value).ownBlock ∨ some k_ = (.slice Ao128 x706002_3.length co128 : Value).ownBlock) rfl rfl ?aP (fun k_ hk_ => hk_.elim (fun h_ => ((Kd.R_mono (ok' := fun k_ => ((fun k_ => k_ ≠ gb705)) k_ ∧ some k_ ≠ (u699001 : Value).ownBlock) (Kd.R_types (Kd.R_apart' (HO_706001.out) (Kd.S_typed HO_699001.out) (by decide)) BK705.out (by decide)) (fun k_ hk => ⟨hk.2, hk.1.2⟩))).1 k_ h_.symm) (fun h_ => ((Kd.R_mono (ok' := fun k_ => ((fun k_ => k_ ≠ gb705)) k_ ∧ some k_ ≠ (u699001 : Value).ownBlock) (Kd.R_types (Kd.R_apart' (HO_706002.out) (Kd.S_typed HO_699001.out) (by decide)) BK705.out (by decide)) (fun k_ hk => ⟨hk.2, hk.1.2⟩))).1 k_ h_.symm)) ?aF ?aO (Below.refl _ _) ?aS ?aL ?_; (case aP => exact k66_mkM _ _ _ (⟨t702, x706001_2, x706002_3⟩ : S66) (Kd.R_mono (Kd.R_tight rfl (Kd.R_mono (ok' := fun k_ => ((fun k_ => k_ ≠ gb705)) k_ ∧ some k_ ≠ (u699001 : Value).ownBlock) (Kd.R_types (Kd.R_apart' (HO_706001.out) (Kd.S_typed HO_699001.out) (by decide)) BK705.out (by decide)) (fun k_ hk => ⟨hk.2, hk.1.2⟩))) (fun _ h_ => Or.inl h_)) (Kd.R_mono (Kd.R_tight rfl (Kd.R_mono (ok' := fun k_ => ((fun k_ => k_ ≠ gb705)) k_ ∧ some k_ ≠ (u699001 : Value).ownBlock) (Kd.R_types (Kd.R_apart' (HO_706002.out) (Kd.S_typed HO_699001.out) (by decide)) BK705.out (by decide)) (fun k_ hk => ⟨hk.2, hk.1.2⟩))) (fun _ h_ => Or.inr (h_)))); (case aF => exact (fun k_ hk => Kd.freshB (zb BK705) k_ hk)); (case aO => exact (Kd.S_mono (zs HO_699001) (fun k_ hk => ⟨hk.2.2, fun e_ => e_.elim (fun h_ => hk.1 h_) (fun h_ => hk.2.1 h_)⟩))); (case aS => exact (keep_size (w := w) (g := g) (row := none) (zk HK))); (case aL => have := LMc102.out; omega); intro v719 w126 ho hb hg hat; rw [← Ny718.out] at ho; replace BK694 := zm (blk_grown (zb BK694) hg (Kd.S_ne HO_699001.out BK694.out (by decide))); replace BK698 := zm (blk_grown (zb BK698) hg (Kd.S_ne HO_699001.out BK698.out (by decide))); replace BK705 := zm (blk_grown (zb BK705) hg (Kd.S_away HO_699001.out (fun _ hk => hk.2.2))); replace HI0 := zm (IsS78.grown (zi78 HI0) hg (IsS78.own_neS HI0.out HO_699001.out (by decide))); replace HB := zm (below_weaken (zj78 HB) HL.out hb); replace HK := zm (KeepBut.trans (zk HK) (KeepBut.of_grown hg g) (Kd.S_base2 HO_699001.out)); have HO720 := zm (ho); clear HO_699001 HO_706001 HO_706002; clear ho hb hg hat; obtain ⟨Ao129, co129, eo129⟩ := Kd.S_slice HO720.out; subst eo129; obtain ⟨⟨_, _⟩, _, _⟩ := zc2 BK698; obtain ⟨ASz131_0, cSz131_0, HGz131, hgz131, HSz131_0⟩ := HI0.out; have hcz131_0 := cellS78_0 HGz131; have hcz131_1 := cellS78_1 HGz131; have hcz131_2 := cellS78_2 HGz131; have hfz131_1 := blk_frozen HGz131 1; have hfz131_2 := blk_frozen HGz131 2; clear HGz131 hgz131))
         go_roundg k3
         case measure => have := HK1.out; have := HK2.out; have := HK3.out; omega
         case rel => exact ⟨(wrap64 (x11_1 + 1)), (x1001_3), (false), (x695000_3), (y718), (.slice Ao129 y718.length co129), zrs, H', ⟨by have := HK1.out; have := HK2.out; have := HK3.out; omega⟩, ⟨by (with_reducible repeat (first | apply Kd.S_alloc | apply Kd.S_drewN | apply Kd.S_drew)); exact Kd.S_mono (zfS gb698 1 (Kd.S_types HO720.out BK698.out (by decide)) (.slice Ao129 y718.length co129)) (fun _ hk => trivial)⟩, ⟨zp BK694⟩, ⟨zp BK698⟩, ⟨zi78 HI0⟩, ⟨zk HK⟩, ⟨zj78 HB⟩⟩
        subst c103
        rw [if_pos rfl] at H
        simp only [Option.some.injEq, Prod.mk.injEq] at H
        obtain ⟨rfl, rfl, rfl, rfl⟩ := H
        obtain ⟨_, _⟩ := zne NB698_694
        obtain ⟨_, _⟩ := zne NB698_705
        obtain ⟨_, _⟩ := zne NB698_0
        obtain ⟨⟨_, _⟩, _, _⟩ := zc2 BK698
        obtain ⟨_, _⟩ := zne NB705_694
        obtain ⟨_, _⟩ := zne NB705_0
        obtain ⟨⟨_, _, _⟩, _, _, _⟩ := zc3 BK705
        obtain ⟨Ao112, co112, eo112⟩ := Kd.R_slice HO_706001.out
        subst eo112
        obtain ⟨Ao113, co113, eo113⟩ := Kd.R_slice HO_706002.out
        subst eo113
        go_wp2_with (first | ((with_reducible refine gate_builtin (b := .append) (xs := #[.tmp 59, .tmp 61]) rfl ?_); at_builtin; refine Kd.S_append k66 w.heap.size rfl (.tmp 59) (.tmp 61) 29 66 (.agg #[(.string ⟨#[]⟩), (.slice none 0 0), (.slice none 0 0)]) 64 rfl Try.underlying29 info66 rfl (by decide) (by omega) u699001 x699001_1 (⟨t702, x706001_2, x706002_3⟩ : S66) [.string t702, .slice Ao112 x706001_2.length co112, .slice Ao113 x706002_3.length co113] (fun k_ => k_ ≠ gb705) (fun k_ => some k_ = (.slice Ao112 x706001_2.length co112 : Value).ownBlock ∨ some k_ = (.slice Ao113 x706002_3.length co113 : Value).ownBlock) rfl rfl ?aP (fun k_ hk_ => hk_.elim (fun h_ => ((Kd.R_mono (ok' := fun k_ => ((fun k_ => k_ ≠ gb705)) k_ ∧ some k_ ≠ (u699001 : Value).ownBlock) (Kd.R_types (Kd.R_apart' (HO_706001.out) (Kd.S_typed HO_699001.out) (by decide)) BK705.out (by decide)) (fun k_ hk => ⟨hk.2, hk.1.2⟩))).1 k_ h_.symm) (fun h_ => ((Kd.R_mono (ok' := fun k_ => ((fun k_ => k_ ≠ gb705)) k_ ∧ some k_ ≠ (u699001 : Value).ownBlock) (Kd.R_types (Kd.R_apart' (HO_706002.out) (Kd.S_typed HO_699001.out) (by decide)) BK705.out (by decide)) (fun k_ hk => ⟨hk.2, hk.1.2⟩))).1 k_ h_.symm)) ?aF ?aO (Below.refl _ _) ?aS ?aL ?_; (case aP => exact k66_mkM _ _ _ (⟨t702, x706001_2, x706002_3⟩ : S66) (Kd.R_mono (Kd.R_tight rfl (Kd.R_mono (ok' := fun k_ => ((fun k_ => k_ ≠ gb705)) k_ ∧ some k_ ≠ (u699001 : Value).ownBlock) (Kd.R_types (Kd.R_apart' (HO_706001.out) (Kd.S_typed HO_699001.out) (by decide)) BK705.out (by decide)) (fun k_ hk => ⟨hk.2, hk.1.2⟩))) (fun _ h_ => Or.inl h_)) (Kd.R_mono (Kd.R_tight rfl (Kd.R_mono (ok' := fun k_ => ((fun k_ => k_ ≠ gb705)) k_ ∧ some k_ ≠ (u699001 : Value).ownBlock) (Kd.R_types (Kd.R_apart' (HO_706002.out) (Kd.S_typed HO_699001.out) (by decide)) BK705.out (by decide)) (fun k_ hk => ⟨hk.2, hk.1.2⟩))) (fun _ h_ => Or.inr (h_)))); (case aF => exact (fun k_ hk => Kd.freshB (zb BK705) k_ hk)); (case aO => exact (Kd.S_mono (zs HO_699001) (fun k_ hk => ⟨hk.2.2, fun e_ => e_.elim (fun h_ => hk.1 h_) (fun h_ => hk.2.1 h_)⟩))); (case aS => exact (keep_size (w := w) (g := g) (row := none) (zk HK))); (case aL => have := LMc102.out; omega); intro v719 w111 ho hb hg hat; rw [← Ny718.out] at ho; replace BK694 := zm (blk_grown (zb BK694) hg (Kd.S_ne HO_699001.out BK694.out (by decide))); replace BK698 := zm (blk_grown (zb BK698) hg (Kd.S_ne HO_699001.out BK698.out (by decide))); replace BK705 := zm (blk_grown (zb BK705) hg (Kd.S_away HO_699001.out (fun _ hk => hk.2.2))); replace HI0 := zm (IsS78.grown (zi78 HI0) hg (IsS78.own_neS HI0.out HO_699001.out (by decide))); replace HB := zm (below_weaken (zj78 HB) HL.out hb); replace HK := zm (KeepBut.trans (zk HK) (KeepBut.of_grown hg g) (Kd.S_base2 HO_699001.out)); have HO720 := zm (ho); clear HO_699001 HO_706001 HO_706002; clear ho hb hg hat; obtain ⟨Ao114, co114, eo114⟩ := Kd.S_slice HO720.out; subst eo114; obtain ⟨⟨_, _⟩, _, _⟩ := zc2 BK698; obtain ⟨ASz116_0, cSz116_0, HGz116, hgz116, HSz116_0⟩ := HI0.out; have hcz116_0 := cellS78_0 HGz116; have hcz116_1 := cellS78_1 HGz116; have hcz116_2 := cellS78_2 HGz116; have hfz116_1 := blk_frozen HGz116 1; have hfz116_2 := blk_frozen HGz116 2; clear HGz116 hgz116; obtain ⟨_, _⟩ := zne NB694_0; obtain ⟨⟨_, _⟩, _, _⟩ := zc2 BK694))
        refine bodyPost_ret (results_cell_row rfl _ _ gb694 31 #[.string t695, .slice Ao114 y718.length co114] (0, 0) _ rfl (zp BK694) Try.underlying31 rfl (by kernel_rfl)) rfl ?_
        exact ⟨_, zre, zxS (Kd.S_mono (zfS gb694 1 (zfS gb694 0 (Kd.S_far (p := ⟨gb698, 1, none⟩) (Kd.S_types (Kd.S_types HO720.out BK698.out (by decide)) BK694.out (by decide)) (fun _ hk => hk.1.2) (.slice Ao114 y718.length co114)) (.string t695)) (.slice Ao114 y718.length co114)) (fun _ hk => trivial)), zi78 HI0, zj78 HB, zk HK⟩
       rw [if_pos c47] at H
       have c47b0 := decide_eq_true c47
       clear c47
       replace H := zbi H
       obtain ⟨⟨t721, t722, t723⟩, A48, H⟩ := H
       try dsimp only at H
       by_cases c49 : (Int.tmod t721 2) = 1
       rotate_left
       ·rw [if_neg c49] at H
        have c49b0 := z2 c49
        have c49b1 := z4 c49
        replace H := zif H
        obtain ⟨c76, H⟩ := H
        have LMc76 := zm c76
        clear c76
        obtain ⟨y727, hy727⟩ : ∃ y_ : List Int, y_ = (x706002_3 ++ [wrap64 (Int.tdiv t721 2)]) := ⟨_, rfl⟩
        replace H : (if t723 = true then (some (t695, x699001_1, t722, t723)) else (F2.l2 k3 t699 x11_1 t715 (wrap64 (x35_3 + 1)) s0_0 t722 t723 t695 x699001_1 t702 x706001_2 y727)) = some (r1, r2, r3, r4) := zby hy727 H
        have Ny727 := zm hy727
        clear hy727
        by_cases c77 : t723 = true
        ·subst c77
         rw [if_pos rfl] at H
         simp only [Option.some.injEq, Prod.mk.injEq] at H
         obtain ⟨rfl, rfl, rfl, rfl⟩ := H
         go_wp2_with (first | ((with_reducible refine gate_callee (f := 73) rfl ?_); refine zgl 38 Try.func73 #[.pointer (some ⟨g, 0, none⟩), .int .i64 2000000000000] ?_; refine (F12.calls k3 g s0_0 x1001_3 x1002_3 2000000000000 t721 t722 true w0 _ (zi78 HI0) (zj78 HB) A48.out).mono ?_; rintro e w78 ⟨rfl, hi, hb, hk⟩; refine ⟨_, rfl, ?_⟩; replace HO_699001 := zKS78 HI0 HO_699001 hk; replace HO_706001 := zKR78 HI0 HO_706001 hk; replace HO_706002 := zKR78 HI0 HO_706002 hk; replace BK694 := zkb BK694 NB694_0 hk; replace BK698 := zkb BK698 NB698_0 hk; replace BK705 := zkb BK705 NB705_0 hk; replace HK := zkt HK hk; replace HB := zm (hb); replace HI0 := zm (hi); (try clear hb hk hi); obtain ⟨_, _⟩ := zne NB705_694; obtain ⟨_, _⟩ := zne NB705_698; obtain ⟨_, _⟩ := zne NB705_0; obtain ⟨⟨_, _, _⟩, _, _, _⟩ := zc3 BK705) | ((with_reducible refine gate_builtin (b := .append) (xs := #[.tmp 46, .tmp 49]) rfl ?_); at_builtin; refine Kd.R_append (Kd.int .i64) w.heap.size rfl (.tmp 46) (.tmp 49) 52 3 (.int .i64 0) 8 rfl Try.underlying52 info3 rfl (by decide) (by omega) u706002 x706002_3 (wrap64 (Int.tdiv t721 2)) [.int .i64 (wrap64 (Int.tdiv t721 2))] (fun _ => True) (fun _ => False) rfl rfl ?aP (fun _ hk => hk.elim) ?aF ?aO (Below.refl _ _) ?aS ?aL ?_; (case aP => exact rfl); (case aF => exact (fun _ _ => trivial)); (case aO => exact (zr HO_706002)); (case aS => exact (keep_size (w := w) (g := g) (row := none) (zk HK))); (case aL => have := LMc76.out; omega); intro v728 w83 ho hb hg hat; rw [← Ny727.out] at ho; replace HO_699001 := zm (Kd.S_after (ok := (fun k_ => some k_ ≠ (u706001 : Value).ownBlock ∧ k_ ≠ gb705)) (Kd.S_mono (zs HO_699001) (fun _ hk => ⟨⟨hk.1, hk.2.2⟩, hk.2.1⟩)) hg hat); replace HO_706001 := zm (Kd.R_over' (zr HO_706001) (Kd.R_typed (zr HO_706002)) (by decide) hg); replace BK694 := zm (blk_grown (zb BK694) hg (Kd.R_ne HO_706002.out BK694.out (by decide))); replace BK698 := zm (blk_grown (zb BK698) hg (Kd.R_ne HO_706002.out BK698.out (by decide))); replace BK705 := zm (blk_grown (zb BK705) hg (Kd.R_ne HO_706002.out BK705.out (by decide))); replace HI0 := zm (IsS78.grown (zi78 HI0) hg (IsS78.own_ne HI0.out HO_706002.out (by decide))); replace HB := zm (below_weaken (zj78 HB) HL.out hb); replace HK := zm (KeepBut.trans (zk HK) (KeepBut.of_grown hg g) (Kd.R_base2 HO_706002.out)); have HO729 := zm (ho); clear HO_706002; clear ho hb hg hat; obtain ⟨Ao84, co84, eo84⟩ := Kd.R_slice HO729.out; subst eo84; obtain ⟨⟨_, _, _⟩, _, _, _⟩ := zc3 BK705; obtain ⟨ASz86_0, cSz86_0, HGz86, hgz86, HSz86_0⟩ := HI0.out; have hcz86_0 := cellS78_0 HGz86; have hcz86_1 := cellS78_1 HGz86; have hcz86_2 := cellS78_2 HGz86; have hfz86_1 := blk_frozen HGz86 1; have hfz86_2 := blk_frozen HGz86 2; clear HGz86 hgz86; obtain ⟨_, _⟩ := zne NB698_694; obtain ⟨_, _⟩ := zne NB698_0; obtain ⟨⟨_, _⟩, _, _⟩ := zc2 BK698; obtain ⟨_, _⟩ := zne NB694_0; obtain ⟨⟨_, _⟩, _, _⟩ := zc2 BK694; obtain ⟨Ao92, co92, eo92⟩ := Kd.S_slice HO_699001.out; subst eo92))
         refine bodyPost_ret (results_cell_row rfl _ _ gb694 31 #[.string t695, .slice Ao92 x699001_1.length co92] (0, 0) _ rfl (zp BK694) Try.underlying31 rfl (by kernel_rfl)) rfl ?_
         exact ⟨_, zre, zxS (Kd.S_mono (zfS gb694 1 (zfS gb694 0 (Kd.S_far (p := ⟨gb705, 2, none⟩) (Kd.S_types (Kd.S_mono HO_699001.out (fun k_ hk => (⟨hk, hk.1.2⟩ : _ ∧ k_ ≠ gb705))) BK694.out (by decide)) (fun _ hk => hk.1.2) (.slice Ao84 y727.length co84)) (.string t695)) (.slice Ao92 x699001_1.length co92)) (fun _ hk => trivial)), zi78 HI0, zj78 HB, zk HK⟩
        replace c77 := Bool.eq_false_iff.mpr c77
        subst c77
        rw [if_neg (show ¬ (false = true) by decide)] at H
        have H' := zm H
        clear H
        go_wp2_with (first | ((with_reducible refine gate_callee (f := 73) rfl ?_); refine zgl 38 Try.func73 #[.pointer (some ⟨g, 0, none⟩), .int .i64 2000000000000] ?_; refine (F12.calls k3 g s0_0 x1001_3 x1002_3 2000000000000 t721 t722 false w0 _ (zi78 HI0) (zj78 HB) A48.out).mono ?_; rintro e w93 ⟨rfl, hi, hb, hk⟩; refine ⟨_, rfl, ?_⟩; replace HO_699001 := zKS78 HI0 HO_699001 hk; replace HO_706001 := zKR78 HI0 HO_706001 hk; replace HO_706002 := zKR78 HI0 HO_706002 hk; replace BK694 := zkb BK694 NB694_0 hk; replace BK698 := zkb BK698 NB698_0 hk; replace BK705 := zkb BK705 NB705_0 hk; replace HK := zkt HK hk; replace HB := zm (hb); replace HI0 := zm (hi); (try clear hb hk hi); obtain ⟨_, _⟩ := zne NB705_694; obtain ⟨_, _⟩ := zne NB705_698; obtain ⟨_, _⟩ := zne NB705_0; obtain ⟨⟨_, _, _⟩, _, _, _⟩ := zc3 BK705) | ((with_reducible refine gate_builtin (b := .append) (xs := #[.tmp 46, .tmp 49]) rfl ?_); at_builtin; refine Kd.R_append (Kd.int .i64) w.heap.size rfl (.tmp 46) (.tmp 49) 52 3 (.int .i64 0) 8 rfl Try.underlying52 info3 rfl (by decide) (by omega) u706002 x706002_3 (wrap64 (Int.tdiv t721 2)) [.int .i64 (wrap64 (Int.tdiv t721 2))] (fun _ => True) (fun _ => False) rfl rfl ?aP (fun _ hk => hk.elim) ?aF ?aO (Below.refl _ _) ?aS ?aL ?_; (case aP => exact rfl); (case aF => exact (fun _ _ => trivial)); (case aO => exact (zr HO_706002)); (case aS => exact (keep_size (w := w) (g := g) (row := none) (zk HK))); (case aL => have := LMc76.out; omega); intro v728 w98 ho hb hg hat; rw [← Ny727.out] at ho; replace HO_699001 := zm (Kd.S_after (ok := (fun k_ => some k_ ≠ (u706001 : Value).ownBlock ∧ k_ ≠ gb705)) (Kd.S_mono (zs HO_699001) (fun _ hk => ⟨⟨hk.1, hk.2.2⟩, hk.2.1⟩)) hg hat); replace HO_706001 := zm (Kd.R_over' (zr HO_706001) (Kd.R_typed (zr HO_706002)) (by decide) hg); replace BK694 := zm (blk_grown (zb BK694) hg (Kd.R_ne HO_706002.out BK694.out (by decide))); replace BK698 := zm (blk_grown (zb BK698) hg (Kd.R_ne HO_706002.out BK698.out (by decide))); replace BK705 := zm (blk_grown (zb BK705) hg (Kd.R_ne HO_706002.out BK705.out (by decide))); replace HI0 := zm (IsS78.grown (zi78 HI0) hg (IsS78.own_ne HI0.out HO_706002.out (by decide))); replace HB := zm (below_weaken (zj78 HB) HL.out hb); replace HK := zm (KeepBut.trans (zk HK) (KeepBut.of_grown hg g) (Kd.R_base2 HO_706002.out)); have HO729 := zm (ho); clear HO_706002; clear ho hb hg hat; obtain ⟨Ao99, co99, eo99⟩ := Kd.R_slice HO729.out; subst eo99; obtain ⟨⟨_, _, _⟩, _, _, _⟩ := zc3 BK705; obtain ⟨ASz101_0, cSz101_0, HGz101, hgz101, HSz101_0⟩ := HI0.out; have hcz101_0 := cellS78_0 HGz101; have hcz101_1 := cellS78_1 HGz101; have hcz101_2 := cellS78_2 HGz101; have hfz101_1 := blk_frozen HGz101 1; have hfz101_2 := blk_frozen HGz101 2; clear HGz101 hgz101))
        go_roundg k3
        case measure => have := HK1.out; have := HK2.out; have := HK3.out; omega
        case rel => exact ⟨(wrap64 (x35_3 + 1)), (t722), (false), (x695000_3), (y727), (.slice Ao99 y727.length co99), zrs, H', ⟨by have := HK1.out; have := HK2.out; have := HK3.out; omega⟩, ⟨by (with_reducible repeat (first | apply Kd.S_alloc | apply Kd.S_drewN | apply Kd.S_drew)); exact Kd.S_mono (zfS gb705 2 (Kd.S_mono HO_699001.out (fun k_ hk => (⟨hk, hk.1.2⟩ : _ ∧ k_ ≠ gb705))) (.slice Ao99 y727.length co99)) (fun _ hk => ⟨hk.1.1.1, ⟨hk.1.2, hk.1.1.2⟩⟩)⟩, ⟨by (with_reducible repeat (first | apply Kd.R_alloc | apply Kd.R_drewN | apply Kd.R_drew)); exact Kd.R_mono (Kd.R_far (p := ⟨gb705, 2, none⟩) (Kd.R_types HO_706001.out BK705.out (by decide)) (fun _ hk => hk.2) (.slice Ao99 y727.length co99)) (fun _ hk => trivial)⟩, ⟨by (with_reducible repeat (first | apply Kd.R_alloc | apply Kd.R_drewN | apply Kd.R_drew)); exact Kd.R_mono (Kd.R_far (p := ⟨gb705, 2, none⟩) (Kd.R_types HO729.out BK705.out (by decide)) (fun _ hk => hk.2) (.slice Ao99 y727.length co99)) (fun _ hk => trivial)⟩, ⟨zp BK694⟩, ⟨zp BK698⟩, ⟨zp BK705⟩, ⟨zi78 HI0⟩, ⟨zk HK⟩, ⟨zj78 HB⟩⟩
       rw [if_pos c49] at H
       have c49b0 := z1 c49
       have c49b1 := z3 c49
       clear c49
       replace H := zif H
       obtain ⟨c50, H⟩ := H
       have LMc50 := zm c50
       clear c50
       obtain ⟨y724, hy724⟩ : ∃ y_ : List Int, y_ = (x706002_3 ++ [wrap64 (Int.tdiv (wrap64 (-(wrap64 (t721 + 1)))) 2)]) := ⟨_, rfl⟩
       replace H : (if t723 = true then (some (t695, x699001_1, t722, t723)) else (F2.l2 k3 t699 x11_1 t715 (wrap64 (x35_3 + 1)) s0_0 t722 t723 t695 x699001_1 t702 x706001_2 y724)) = some (r1, r2, r3, r4) := zby hy724 H
       have Ny724 := zm hy724
       clear hy724
       by_cases c51 : t723 = true
       ·subst c51
        rw [if_pos rfl] at H
        simp only [Option.some.injEq, Prod.mk.injEq] at H
        obtain ⟨rfl, rfl, rfl, rfl⟩ := H
        go_wp2_with (first | ((with_reducible refine gate_callee (f := 73) rfl ?_); refine zgl 38 Try.func73 #[.pointer (some ⟨g, 0, none⟩), .int .i64 2000000000000] ?_; refine (F12.calls k3 g s0_0 x1001_3 x1002_3 2000000000000 t721 t722 true w0 _ (zi78 HI0) (zj78 HB) A48.out).mono ?_; rintro e w52 ⟨rfl, hi, hb, hk⟩; refine ⟨_, rfl, ?_⟩; replace HO_699001 := zKS78 HI0 HO_699001 hk; replace HO_706001 := zKR78 HI0 HO_706001 hk; replace HO_706002 := zKR78 HI0 HO_706002 hk; replace BK694 := zkb BK694 NB694_0 hk; replace BK698 := zkb BK698 NB698_0 hk; replace BK705 := zkb BK705 NB705_0 hk; replace HK := zkt HK hk; replace HB := zm (hb); replace HI0 := zm (hi); (try clear hb hk hi); obtain ⟨_, _⟩ := zne NB705_694; obtain ⟨_, _⟩ := zne NB705_698; obtain ⟨_, _⟩ := zne NB705_0; obtain ⟨⟨_, _, _⟩, _, _, _⟩ := zc3 BK705) | ((with_reducible refine gate_builtin (b := .append) (xs := #[.tmp 46, .tmp 49]) rfl ?_); at_builtin; refine Kd.R_append (Kd.int .i64) w.heap.size rfl (.tmp 46) (.tmp 49) 52 3 (.int .i64 0) 8 rfl Try.underlying52 info3 rfl (by decide) (by omega) u706002 x706002_3 (wrap64 (Int.tdiv (wrap64 (-(wrap64 (t721 + 1)))) 2)) [.int .i64 (wrap64 (Int.tdiv (wrap64 (-(wrap64 (t721 + 1)))) 2))] (fun _ => True) (fun _ => False) rfl rfl ?aP (fun _ hk => hk.elim) ?aF ?aO (Below.refl _ _) ?aS ?aL ?_; (case aP => exact rfl); (case aF => exact (fun _ _ => trivial)); (case aO => exact (zr HO_706002)); (case aS => exact (keep_size (w := w) (g := g) (row := none) (zk HK))); (case aL => have := LMc50.out; omega); intro v725 w57 ho hb hg hat; rw [← Ny724.out] at ho; replace HO_699001 := zm (Kd.S_after (ok := (fun k_ => some k_ ≠ (u706001 : Value).ownBlock ∧ k_ ≠ gb705)) (Kd.S_mono (zs HO_699001) (fun _ hk => ⟨⟨hk.1, hk.2.2⟩, hk.2.1⟩)) hg hat); replace HO_706001 := zm (Kd.R_over' (zr HO_706001) (Kd.R_typed (zr HO_706002)) (by decide) hg); replace BK694 := zm (blk_grown (zb BK694) hg (Kd.R_ne HO_706002.out BK694.out (by decide))); replace BK698 := zm (blk_grown (zb BK698) hg (Kd.R_ne HO_706002.out BK698.out (by decide))); replace BK705 := zm (blk_grown (zb BK705) hg (Kd.R_ne HO_706002.out BK705.out (by decide))); replace HI0 := zm (IsS78.grown (zi78 HI0) hg (IsS78.own_ne HI0.out HO_706002.out (by decide))); replace HB := zm (below_weaken (zj78 HB) HL.out hb); replace HK := zm (KeepBut.trans (zk HK) (KeepBut.of_grown hg g) (Kd.R_base2 HO_706002.out)); have HO726 := zm (ho); clear HO_706002; clear ho hb hg hat; obtain ⟨Ao58, co58, eo58⟩ := Kd.R_slice HO726.out; subst eo58; obtain ⟨⟨_, _, _⟩, _, _, _⟩ := zc3 BK705; obtain ⟨ASz60_0, cSz60_0, HGz60, hgz60, HSz60_0⟩ := HI0.out; have hcz60_0 := cellS78_0 HGz60; have hcz60_1 := cellS78_1 HGz60; have hcz60_2 := cellS78_2 HGz60; have hfz60_1 := blk_frozen HGz60 1; have hfz60_2 := blk_frozen HGz60 2; clear HGz60 hgz60; obtain ⟨_, _⟩ := zne NB698_694; obtain ⟨_, _⟩ := zne NB698_0; obtain ⟨⟨_, _⟩, _, _⟩ := zc2 BK698; obtain ⟨_, _⟩ := zne NB694_0; obtain ⟨⟨_, _⟩, _, _⟩ := zc2 BK694; obtain ⟨Ao66, co66, eo66⟩ := Kd.S_slice HO_699001.out; subst eo66))
        refine bodyPost_ret (results_cell_row rfl _ _ gb694 31 #[.string t695, .slice Ao66 x699001_1.length co66] (0, 0) _ rfl (zp BK694) Try.underlying31 rfl (by kernel_rfl)) rfl ?_
        exact ⟨_, zre, zxS (Kd.S_mono (zfS gb694 1 (zfS gb694 0 (Kd.S_far (p := ⟨gb705, 2, none⟩) (Kd.S_types (Kd.S_mono HO_699001.out (fun k_ hk => (⟨hk, hk.1.2⟩ : _ ∧ k_ ≠ gb705))) BK694.out (by decide)) (fun _ hk => hk.1.2) (.slice Ao58 y724.length co58)) (.string t695)) (.slice Ao66 x699001_1.length co66)) (fun _ hk => trivial)), zi78 HI0, zj78 HB, zk HK⟩
       replace c51 := Bool.eq_false_iff.mpr c51
       subst c51
       rw [if_neg (show ¬ (false = true) by decide)] at H
       have H' := zm H
       clear H
       go_wp2_with (first | ((with_reducible refine gate_callee (f := 73) rfl ?_); refine zgl 38 Try.func73 #[.pointer (some ⟨g, 0, none⟩), .int .i64 2000000000000] ?_; refine (F12.calls k3 g s0_0 x1001_3 x1002_3 2000000000000 t721 t722 false w0 _ (zi78 HI0) (zj78 HB) A48.out).mono ?_; rintro e w67 ⟨rfl, hi, hb, hk⟩; refine ⟨_, rfl, ?_⟩; replace HO_699001 := zKS78 HI0 HO_699001 hk; replace HO_706001 := zKR78 HI0 HO_706001 hk; replace HO_706002 := zKR78 HI0 HO_706002 hk; replace BK694 := zkb BK694 NB694_0 hk; replace BK698 := zkb BK698 NB698_0 hk; replace BK705 := zkb BK705 NB705_0 hk; replace HK := zkt HK hk; replace HB := zm (hb); replace HI0 := zm (hi); (try clear hb hk hi); obtain ⟨_, _⟩ := zne NB705_694; obtain ⟨_, _⟩ := zne NB705_698; obtain ⟨_, _⟩ := zne NB705_0; obtain ⟨⟨_, _, _⟩, _, _, _⟩ := zc3 BK705) | ((with_reducible refine gate_builtin (b := .append) (xs := #[.tmp 46, .tmp 49]) rfl ?_); at_builtin; refine Kd.R_append (Kd.int .i64) w.heap.size rfl (.tmp 46) (.tmp 49) 52 3 (.int .i64 0) 8 rfl Try.underlying52 info3 rfl (by decide) (by omega) u706002 x706002_3 (wrap64 (Int.tdiv (wrap64 (-(wrap64 (t721 + 1)))) 2)) [.int .i64 (wrap64 (Int.tdiv (wrap64 (-(wrap64 (t721 + 1)))) 2))] (fun _ => True) (fun _ => False) rfl rfl ?aP (fun _ hk => hk.elim) ?aF ?aO (Below.refl _ _) ?aS ?aL ?_; (case aP => exact rfl); (case aF => exact (fun _ _ => trivial)); (case aO => exact (zr HO_706002)); (case aS => exact (keep_size (w := w) (g := g) (row := none) (zk HK))); (case aL => have := LMc50.out; omega); intro v725 w72 ho hb hg hat; rw [← Ny724.out] at ho; replace HO_699001 := zm (Kd.S_after (ok := (fun k_ => some k_ ≠ (u706001 : Value).ownBlock ∧ k_ ≠ gb705)) (Kd.S_mono (zs HO_699001) (fun _ hk => ⟨⟨hk.1, hk.2.2⟩, hk.2.1⟩)) hg hat); replace HO_706001 := zm (Kd.R_over' (zr HO_706001) (Kd.R_typed (zr HO_706002)) (by decide) hg); replace BK694 := zm (blk_grown (zb BK694) hg (Kd.R_ne HO_706002.out BK694.out (by decide))); replace BK698 := zm (blk_grown (zb BK698) hg (Kd.R_ne HO_706002.out BK698.out (by decide))); replace BK705 := zm (blk_grown (zb BK705) hg (Kd.R_ne HO_706002.out BK705.out (by decide))); replace HI0 := zm (IsS78.grown (zi78 HI0) hg (IsS78.own_ne HI0.out HO_706002.out (by decide))); replace HB := zm (below_weaken (zj78 HB) HL.out hb); replace HK := zm (KeepBut.trans (zk HK) (KeepBut.of_grown hg g) (Kd.R_base2 HO_706002.out)); have HO726 := zm (ho); clear HO_706002; clear ho hb hg hat; obtain ⟨Ao73, co73, eo73⟩ := Kd.R_slice HO726.out; subst eo73; obtain ⟨⟨_, _, _⟩, _, _, _⟩ := zc3 BK705; obtain ⟨ASz75_0, cSz75_0, HGz75, hgz75, HSz75_0⟩ := HI0.out; have hcz75_0 := cellS78_0 HGz75; have hcz75_1 := cellS78_1 HGz75; have hcz75_2 := cellS78_2 HGz75; have hfz75_1 := blk_frozen HGz75 1; have hfz75_2 := blk_frozen HGz75 2; clear HGz75 hgz75))
       go_roundg k3
       case measure => have := HK1.out; have := HK2.out; have := HK3.out; omega
       case rel => exact ⟨(wrap64 (x35_3 + 1)), (t722), (false), (x695000_3), (y724), (.slice Ao73 y724.length co73), zrs, H', ⟨by have := HK1.out; have := HK2.out; have := HK3.out; omega⟩, ⟨by (with_reducible repeat (first | apply Kd.S_alloc | apply Kd.S_drewN | apply Kd.S_drew)); exact Kd.S_mono (zfS gb705 2 (Kd.S_mono HO_699001.out (fun k_ hk => (⟨hk, hk.1.2⟩ : _ ∧ k_ ≠ gb705))) (.slice Ao73 y724.length co73)) (fun _ hk => ⟨hk.1.1.1, ⟨hk.1.2, hk.1.1.2⟩⟩)⟩, ⟨by (with_reducible repeat (first | apply Kd.R_alloc | apply Kd.R_drewN | apply Kd.R_drew)); exact Kd.R_mono (Kd.R_far (p := ⟨gb705, 2, none⟩) (Kd.R_types HO_706001.out BK705.out (by decide)) (fun _ hk => hk.2) (.slice Ao73 y724.length co73)) (fun _ hk => trivial)⟩, ⟨by (with_reducible repeat (first | apply Kd.R_alloc | apply Kd.R_drewN | apply Kd.R_drew)); exact Kd.R_mono (Kd.R_far (p := ⟨gb705, 2, none⟩) (Kd.R_types HO726.out BK705.out (by decide)) (fun _ hk => hk.2) (.slice Ao73 y724.length co73)) (fun _ hk => trivial)⟩, ⟨zp BK694⟩, ⟨zp BK698⟩, ⟨zp BK705⟩, ⟨zi78 HI0⟩, ⟨zk HK⟩, ⟨zj78 HB⟩⟩
/-! ### F41: function 19 -/
def F41.f (k : Nat) (l0 : List Int) : Option (ByteArray × (List (S66)) × Int) := if (l0.length : Int) > 1048576 then (some ((⟨#[]⟩ : ByteArray), ([] : List (S66)), 2)) else ((F2.f k l0 0 false).bind fun bt732 => (if bt732.2.2.2 = true then (some ((⟨#[]⟩ : ByteArray), ([] : List (S66)), 15)) else (if bt732.2.2.1 = (l0.length : Int) then (some (bt732.1, bt732.2.1, 0)) else (some ((⟨#[]⟩ : ByteArray), ([] : List (S66)), 15)))))
theorem F41.mono : ∀ a0 k, LeO (F41.f k a0) (F41.f (k + 1) a0) := by
 intro a0 k
 unfold F41.f
 repeat' with_reducible first | exact F2.mono _ _ _ _ | exact LeO.refl _ | exact LeO.none _ | refine LeO.ite ?_ ?_ | refine LeO.bind ?_ (fun _ => ?_)
set_option maxHeartbeats 8000000 in
set_option maxRecDepth 100000 in
theorem F41.calls (k : Nat) (A0 : Option Addr) (c0 : Nat) (l0 : List Int) (r1 : ByteArray) (r2 : List (S66)) (r3 : Int) (w : World) (hr0 : Kd.C (Kd.int .u8) w A0 l0.length l0) (hc0 : l0.length ≤ c0) (h : F41.f k l0 = some (r1, r2, r3)) :
 Calls Try.prog 19 #[.slice A0 l0.length c0] w fun e w' => ∃ v1_ : Value, e = .returned (.tuple #[.agg #[.string r1, v1_], .int .i64 r3]) ∧ Kd.S k66 66 w' w.heap.size (fun _ => True) v1_ r2 ∧ Below w.heap.size w w' := by
 have hu31 := Try.underlying31
 have hu78 := Try.underlying78
 have HR0 := zm hr0
 have HC0 := zm hc0
 clear hr0 hc0
 have HB := zm (Below.refl w.heap.size w)
 have H := h
 unfold F41.f at H
 clear h
 by_cases c2 : (l0.length : Int) > 1048576
 ·rw [if_pos c2] at H
  have c2b0 := decide_eq_true c2
  have c2b1 : decide (1048576 < l0.length) = true := decide_eq_true (by omega)
  clear c2
  simp only [Option.some.injEq, Prod.mk.injEq] at H
  obtain ⟨rfl, rfl, rfl⟩ := H
  go_enter Try.func19, Try.ntmps19
  go_wp2_with (first | ((with_reducible refine gate_dst (N := 2) rfl ?_); (try (refine gate_guard (by rfl) ?_; dsimp only)); refine box_event (by rfl) (N := 2) (by rfl) (cs := #[.string (⟨#[]⟩ : ByteArray), .slice none 0 0]) (t := 31) zgs ?_; intro gb730 hg w3 hbox hb; have BK730 := zm (hbox); have GW730 := zge hg (below_size (zh HB)); have GE730 := zge hg (below_size (zh HB)); replace HB := zm (below_step (zh HB) hb); clear hb hbox hg; obtain ⟨⟨_, _⟩, _, _⟩ := zc2 BK730))
  refine bodyPost_ret (results_ct rfl _ _ gb730 31 #[.string (⟨#[]⟩ : ByteArray), .slice none 0 0] (0, 0) _ rfl (zp BK730) Try.underlying31 rfl (by kernel_rfl)) rfl ?_
  exact ⟨_, zre, by first | exact Kd.S_nil _ _ _ _ _ | exact Kd.N_nil _ _ _ _ _ | exact Kd.V_nil _ _ _ _ _ | exact Kd.Q_nil _ _ _ _ _ | exact Kd.R_nil _ _ _ _ _, zg HB⟩
 rw [if_neg c2] at H
 have c2b0 := decide_eq_false c2
 have c2b1 : decide (1048576 < l0.length) = false := decide_eq_false (by omega)
 clear c2
 replace H := zbi H
 obtain ⟨⟨t732, t733, t736, t737⟩, A5, H⟩ := H
 try dsimp only at H
 by_cases c6 : t737 = true
 ·subst c6
  rw [if_pos rfl] at H
  simp only [Option.some.injEq, Prod.mk.injEq] at H
  obtain ⟨rfl, rfl, rfl⟩ := H
  go_enter Try.func19, Try.ntmps19
  go_wp2_with (first | ((with_reducible refine gate_dst (N := 2) rfl ?_); (try (refine gate_guard (by rfl) ?_; dsimp only)); refine box_event (by rfl) (N := 2) (by rfl) (cs := #[.string (⟨#[]⟩ : ByteArray), .slice none 0 0]) (t := 31) zgs ?_; intro gb730 hg w7 hbox hb; have BK730 := zm (hbox); have GW730 := zge hg (below_size (zh HB)); have GE730 := zge hg (below_size (zh HB)); replace HB := zm (below_step (zh HB) hb); clear hb hbox hg) | ((with_reducible refine gate_dst (N := 12) rfl ?_); (try (refine gate_guard (by rfl) ?_; dsimp only)); refine box_event (by rfl) (N := 12) (by rfl) (cs := #[.slice A0 l0.length c0, .int .i64 0, .bool false]) (t := 78) zgs ?_; intro gb731 hg w8 hbox hb; have HI731 := zm ((show IsS78 w w8 gb731 l0 0 false from ⟨_, _, hbox, (by rw [hg]; exact (below_size (zg HB)) : w.heap.size ≤ gb731), ⟨HR0.out, HC0.out⟩⟩)); have GW731 := zge hg (below_size (zg HB)); have GE731 := zge hg (below_size (zg HB)); replace HB := zm (below_step (zg HB) hb); obtain ⟨NB730_731, NB731_730⟩ := znn hg (blk_lt (zb BK730)); replace BK730 := zbb BK730 hb; clear hb hbox hg) | ((with_reducible refine gate_callee (f := 44) rfl ?_); refine zgl 14 Try.func44 #[.pointer (some ⟨gb731, 0, none⟩)] ?_; refine (F2.calls k gb731 l0 0 false t732 t733 t736 true w _ (zi78 HI731) (zj78 HB) A5.out).mono ?_; rintro e w9 ⟨v734, rfl, ho0, hi, hb, hk⟩; refine ⟨_, rfl, ?_⟩; replace BK730 := zkb BK730 NB730_731 hk; have HO735 := zm (Kd.S_lower ho0 (below_size (zj78 HB))); replace HB := zm (hb); replace HI731 := zm (hi); (try clear hb ho0 hk hi)) | ((with_reducible refine gate_dst (N := 5) rfl ?_); (try (refine gate_guard (by rfl) ?_; dsimp only)); refine box_event (by rfl) (N := 5) (by rfl) (cs := #[.string (⟨#[]⟩ : ByteArray), .slice none 0 0]) (t := 31) zgs ?_; intro gb738 hg w10 hbox hb; replace HO735 := zm (Kd.S_below (zs HO735) hb); have BK738 := zm (hbox); have GW738 := zge hg (below_size (zj78 HB)); have GE738 := zge hg (below_size (zj78 HB)); replace HB := zm (below_step (zj78 HB) hb); obtain ⟨NB730_738, NB738_730⟩ := znn hg (blk_lt (zb BK730)); replace BK730 := zbb BK730 hb; obtain ⟨NB731_738, NB738_731⟩ := znn hg (IsS78.lt (show IsS78 w _ gb731 l0 t736 true from zi78 HI731)); replace HI731 := zm (IsS78.below (zi78 HI731) hb); clear hb hbox hg; obtain ⟨_, _⟩ := zne NB738_730; obtain ⟨_, _⟩ := zne NB738_731; obtain ⟨⟨_, _⟩, _, _⟩ := zc2 BK738; obtain ⟨Ao14, co14, eo14⟩ := Kd.S_slice HO735.out; subst eo14; obtain ⟨ASz15_0, cSz15_0, HGz15, hgz15, HSz15_0⟩ := HI731.out; have hcz15_0 := cellS78_0 HGz15; have hcz15_1 := cellS78_1 HGz15; have hcz15_2 := cellS78_2 HGz15; have hfz15_1 := blk_frozen HGz15 1; have hfz15_2 := blk_frozen HGz15 2; clear HGz15 hgz15; obtain ⟨_, _⟩ := zne NB730_731; obtain ⟨⟨_, _⟩, _, _⟩ := zc2 BK730))
  refine bodyPost_ret (results_ct rfl _ _ gb730 31 #[.string (⟨#[]⟩ : ByteArray), .slice none 0 0] (0, 0) _ rfl (zp BK730) Try.underlying31 rfl (by kernel_rfl)) rfl ?_
  exact ⟨_, zre, by first | exact Kd.S_nil _ _ _ _ _ | exact Kd.N_nil _ _ _ _ _ | exact Kd.V_nil _ _ _ _ _ | exact Kd.Q_nil _ _ _ _ _ | exact Kd.R_nil _ _ _ _ _, zj78 HB⟩
 replace c6 := Bool.eq_false_iff.mpr c6
 subst c6
 rw [if_neg (show ¬ (false = true) by decide)] at H
 by_cases c18 : t736 = (l0.length : Int)
 rotate_left
 ·rw [if_neg c18] at H
  have c18b0 := z2 c18
  have c18b1 := z4 c18
  simp only [Option.some.injEq, Prod.mk.injEq] at H
  obtain ⟨rfl, rfl, rfl⟩ := H
  go_enter Try.func19, Try.ntmps19
  go_wp2_with (first | ((with_reducible refine gate_dst (N := 2) rfl ?_); (try (refine gate_guard (by rfl) ?_; dsimp only)); refine box_event (by rfl) (N := 2) (by rfl) (cs := #[.string (⟨#[]⟩ : ByteArray), .slice none 0 0]) (t := 31) zgs ?_; intro gb730 hg w30 hbox hb; have BK730 := zm (hbox); have GW730 := zge hg (below_size (zh HB)); have GE730 := zge hg (below_size (zh HB)); replace HB := zm (below_step (zh HB) hb); clear hb hbox hg) | ((with_reducible refine gate_dst (N := 12) rfl ?_); (try (refine gate_guard (by rfl) ?_; dsimp only)); refine box_event (by rfl) (N := 12) (by rfl) (cs := #[.slice A0 l0.length c0, .int .i64 0, .bool false]) (t := 78) zgs ?_; intro gb731 hg w31 hbox hb; have HI731 := zm ((show IsS78 w w31 gb731 l0 0 false from ⟨_, _, hbox, (by rw [hg]; exact (below_size (zg HB)) : w.heap.size ≤ gb731), ⟨HR0.out, HC0.out⟩⟩)); have GW731 := zge hg (below_size (zg HB)); have GE731 := zge hg (below_size (zg HB)); replace HB := zm (below_step (zg HB) hb); obtain ⟨NB730_731, NB731_730⟩ := znn hg (blk_lt (zb BK730)); replace BK730 := zbb BK730 hb; clear hb hbox hg) | ((with_reducible refine gate_callee (f := 44) rfl ?_); refine zgl 14 Try.func44 #[.pointer (some ⟨gb731, 0, none⟩)] ?_; refine (F2.calls k gb731 l0 0 false t732 t733 t736 false w _ (zi78 HI731) (zj78 HB) A5.out).mono ?_; rintro e w32 ⟨v734, rfl, ho0, hi, hb, hk⟩; refine ⟨_, rfl, ?_⟩; replace BK730 := zkb BK730 NB730_731 hk; have HO735 := zm (Kd.S_lower ho0 (below_size (zj78 HB))); replace HB := zm (hb); replace HI731 := zm (hi); (try clear hb ho0 hk hi)) | ((with_reducible refine gate_dst (N := 5) rfl ?_); (try (refine gate_guard (by rfl) ?_; dsimp only)); refine box_event (by rfl) (N := 5) (by rfl) (cs := #[.string (⟨#[]⟩ : ByteArray), .slice none 0 0]) (t := 31) zgs ?_; intro gb738 hg w33 hbox hb; replace HO735 := zm (Kd.S_below (zs HO735) hb); have BK738 := zm (hbox); have GW738 := zge hg (below_size (zj78 HB)); have GE738 := zge hg (below_size (zj78 HB)); replace HB := zm (below_step (zj78 HB) hb); obtain ⟨NB730_738, NB738_730⟩ := znn hg (blk_lt (zb BK730)); replace BK730 := zbb BK730 hb; obtain ⟨NB731_738, NB738_731⟩ := znn hg (IsS78.lt (show IsS78 w _ gb731 l0 t736 false from zi78 HI731)); replace HI731 := zm (IsS78.below (zi78 HI731) hb); clear hb hbox hg; obtain ⟨_, _⟩ := zne NB738_730; obtain ⟨_, _⟩ := zne NB738_731; obtain ⟨⟨_, _⟩, _, _⟩ := zc2 BK738; obtain ⟨Ao37, co37, eo37⟩ := Kd.S_slice HO735.out; subst eo37; obtain ⟨ASz38_0, cSz38_0, HGz38, hgz38, HSz38_0⟩ := HI731.out; have hcz38_0 := cellS78_0 HGz38; have hcz38_1 := cellS78_1 HGz38; have hcz38_2 := cellS78_2 HGz38; have hfz38_1 := blk_frozen HGz38 1; have hfz38_2 := blk_frozen HGz38 2; clear HGz38 hgz38; obtain ⟨_, _⟩ := zne NB730_731; obtain ⟨⟨_, _⟩, _, _⟩ := zc2 BK730))
  refine bodyPost_ret (results_ct rfl _ _ gb730 31 #[.string (⟨#[]⟩ : ByteArray), .slice none 0 0] (0, 0) _ rfl (zp BK730) Try.underlying31 rfl (by kernel_rfl)) rfl ?_
  exact ⟨_, zre, by first | exact Kd.S_nil _ _ _ _ _ | exact Kd.N_nil _ _ _ _ _ | exact Kd.V_nil _ _ _ _ _ | exact Kd.Q_nil _ _ _ _ _ | exact Kd.R_nil _ _ _ _ _, zj78 HB⟩

 rw [if_pos c18] at H
 have c18b0 := z1 c18
 have c18b1 := z3 c18
 clear c18
 simp only [Option.some.injEq, Prod.mk.injEq] at H
 obtain ⟨rfl, rfl, rfl⟩ := H
 go_enter Try.func19, Try.ntmps19
 go_wp2_with (first | ((with_reducible refine gate_dst (N := 2) rfl ?_); (try (refine gate_guard (by rfl) ?_; dsimp only)); refine box_event (by rfl) (N := 2) (by rfl) (cs := #[.string (⟨#[]⟩ : ByteArray), .slice none 0 0]) (t := 31) zgs ?_; intro gb730 hg w19 hbox hb; have BK730 := zm (hbox); have GW730 := zge hg (below_size (zh HB)); have GE730 := zge hg (below_size (zh HB)); replace HB := zm (below_step (zh HB) hb); clear hb hbox hg) | ((with_reducible refine gate_dst (N := 12) rfl ?_); (try (refine gate_guard (by rfl) ?_; dsimp only)); refine box_event (by rfl) (N := 12) (by rfl) (cs := #[.slice A0 l0.length c0, .int .i64 0, .bool false]) (t := 78) zgs ?_; intro gb731 hg w20 hbox hb; have HI731 := zm ((show IsS78 w w20 gb731 l0 0 false from ⟨_, _, hbox, (by rw [hg]; exact (below_size (zg HB)) : w.heap.size ≤ gb731), ⟨HR0.out, HC0.out⟩⟩)); have GW731 := zge hg (below_size (zg HB)); have GE731 := zge hg (below_size (zg HB)); replace HB := zm (below_step (zg HB) hb); obtain ⟨NB730_731, NB731_730⟩ := znn hg (blk_lt (zb BK730)); replace BK730 := zbb BK730 hb; clear hb hbox hg) | ((with_reducible refine gate_callee (f := 44) rfl ?_); refine zgl 14 Try.func44 #[.pointer (some ⟨gb731, 0, none⟩)] ?_; refine (F2.calls k gb731 l0 0 false t732 t733 t736 false w _ (zi78 HI731) (zj78 HB) A5.out).mono ?_; rintro e w21 ⟨v734, rfl, ho0, hi, hb, hk⟩; refine ⟨_, rfl, ?_⟩; replace BK730 := zkb BK730 NB730_731 hk; have HO735 := zm (Kd.S_lower ho0 (below_size (zj78 HB))); replace HB := zm (hb); replace HI731 := zm (hi); (try clear hb ho0 hk hi)) | ((with_reducible refine gate_dst (N := 5) rfl ?_); (try (refine gate_guard (by rfl) ?_; dsimp only)); refine box_event (by rfl) (N := 5) (by rfl) (cs := #[.string (⟨#[]⟩ : ByteArray), .slice none 0 0]) (t := 31) zgs ?_; intro gb738 hg w22 hbox hb; replace HO735 := zm (Kd.S_below (zs HO735) hb); have BK738 := zm (hbox); have GW738 := zge hg (below_size (zj78 HB)); have GE738 := zge hg (below_size (zj78 HB)); replace HB := zm (below_step (zj78 HB) hb); obtain ⟨NB730_738, NB738_730⟩ := znn hg (blk_lt (zb BK730)); replace BK730 := zbb BK730 hb; obtain ⟨NB731_738, NB738_731⟩ := znn hg (IsS78.lt (show IsS78 w _ gb731 l0 t736 false from zi78 HI731)); replace HI731 := zm (IsS78.below (zi78 HI731) hb); clear hb hbox hg; obtain ⟨_, _⟩ := zne NB738_730; obtain ⟨_, _⟩ := zne NB738_731; obtain ⟨⟨_, _⟩, _, _⟩ := zc2 BK738; obtain ⟨Ao26, co26, eo26⟩ := Kd.S_slice HO735.out; subst eo26; obtain ⟨ASz27_0, cSz27_0, HGz27, hgz27, HSz27_0⟩ := HI731.out; have hcz27_0 := cellS78_0 HGz27; have hcz27_1 := cellS78_1 HGz27; have hcz27_2 := cellS78_2 HGz27; have hfz27_1 := blk_frozen HGz27 1; have hfz27_2 := blk_frozen HGz27 2; clear HGz27 hgz27; obtain ⟨_, _⟩ := zne NB730_731; obtain ⟨⟨_, _⟩, _, _⟩ := zc2 BK730))
 refine bodyPost_ret (results_ct rfl _ _ gb730 31 #[.string t732, .slice Ao26 t733.length co26] (0, 0) _ rfl (zp BK730) Try.underlying31 rfl (by kernel_rfl)) rfl ?_
 exact ⟨_, zre, zxS (Kd.S_mono (zfS gb730 1 (zfS gb730 0 (Kd.S_far (p := ⟨gb738, 1, none⟩) (Kd.S_far (p := ⟨gb738, 0, none⟩) (Kd.S_types (Kd.S_types HO735.out BK738.out (by decide)) BK730.out (by decide)) (fun _ hk => hk.1.2) (.string t732)) (fun _ hk => hk.1.2) (.slice Ao26 t733.length co26)) (.string t732)) (.slice Ao26 t733.length co26)) (fun _ hk => trivial)), zj78 HB⟩
/-! ### F47: function 88 -/
def F47.f (l0 : List Int) (l1 : List Int) : Option (Bool) := some ((strOfNums l0).toList == (strOfNums l1).toList)
set_option maxHeartbeats 8000000 in
set_option maxRecDepth 100000 in
theorem F47.calls (A0 : Option Addr) (c0 : Nat) (l0 : List Int) (A1 : Option Addr) (c1 : Nat) (l1 : List Int) (r : Bool) (w : World) (hr0 : Kd.C (Kd.int .u8) w A0 l0.length l0) (hc0 : l0.length ≤ c0) (hr1 : Kd.C (Kd.int .u8) w A1 l1.length l1) (hc1 : l1.length ≤ c1) (h : F47.f l0 l1 = some r) :
 Calls Try.prog 88 #[.slice A0 l0.length c0, .slice A1 l1.length c1] w fun e w' => e = .returned (.bool r) ∧ Drawn0 w w' := by
 have HR0 := zm hr0
 have HC0 := zm hc0
 clear hr0 hc0
 have HR1 := zm hr1
 have HC1 := zm hc1
 clear hr1 hc1
 have H := h
 unfold F47.f at H
 clear h
 obtain rfl := Option.some.inj H
 have hcv3 := Kd.C_string (P := Try.prog) (A := A0) (c := c0) Try.underlying26 Try.underlying5 Try.underlying9 HR0.out
 have hcv4 := Kd.C_string (P := Try.prog) (A := A1) (c := c1) Try.underlying26 Try.underlying5 Try.underlying9 HR1.out
 go_enter Try.func88, Try.ntmps88
 go_wp2
 go_ret
 exact ⟨zrs, by repeat (first | exact Drawn0.refl _ | apply Drawn0.step)⟩

/-! ### F11: function 58 -/
mutual
def F11.j0 : Nat → List Int → Int → Int → Bool → Option (Int × Int × ByteArray × ByteArray × (List (S66)) × Int)
 | 0, _, _, _, _ => none
 | k + 1, x0, x4, x5, x34 => if x34 = true then (some (0, 0, (⟨#[]⟩ : ByteArray), (⟨#[]⟩ : ByteArray), ([] : List (S66)), 0)) else (if 0 ≤ x5 then (if x5 ≤ (wrap64 (x5 + x4)) then (if (wrap64 (x5 + x4)) ≤ (x0.length : Int) then (if 0 < (((x0.take ((wrap64 (x5 + x4)) : Int).toNat).drop (x5 : Int).toNat).length : Int) then ((F9.f k ((x0.take ((wrap64 (x5 + x4)) : Int).toNat).drop (x5 : Int).toNat) 1).bind fun bt746 => (if bt746.2.2 = 0 then (if (wrap64 (rd ((x0.take ((wrap64 (x5 + x4)) : Int).toNat).drop (x5 : Int).toNat) 0)) = 1 then (if 0 ≤ bt746.2.1 then (if bt746.2.1 ≤ (((x0.take ((wrap64 (x5 + x4)) : Int).toNat).drop (x5 : Int).toNat).length : Int) then ((F41.f k (((x0.take ((wrap64 (x5 + x4)) : Int).toNat).drop (x5 : Int).toNat).drop (bt746.2.1 : Int).toNat)).bind fun bt750 => (if bt750.2.2 = 0 then (F11.j1 k x0 (wrap64 (rd ((x0.take ((wrap64 (x5 + x4)) : Int).toNat).drop (x5 : Int).toNat) 0)) bt746.1 (⟨#[]⟩ : ByteArray) bt750.1 bt750.2.1) else (some (0, 0, (⟨#[]⟩ : ByteArray), (⟨#[]⟩ : ByteArray), ([] : List (S66)), 0)))) else (none)) else (none)) else (if (wrap64 (rd ((x0.take ((wrap64 (x5 + x4)) : Int).toNat).drop (x5 : Int).toNat) 0)) = 2 then (if 0 ≤ bt746.2.1 then (if bt746.2.1 ≤ (((x0.take ((wrap64 (x5 + x4)) : Int).toNat).drop (x5 : Int).toNat).length : Int) then (F11.j1 k x0 (wrap64 (rd ((x0.take ((wrap64 (x5 + x4)) : Int).toNat).drop (x5 : Int).toNat) 0)) bt746.1 (strOfNums (((x0.take ((wrap64 (x5 + x4)) : Int).toNat).drop (x5 : Int).toNat).drop (bt746.2.1 : Int).toNat)) (⟨#[]⟩ : ByteArray) ([] : List (S66))) else (none)) else (none)) else (F11.j1 k x0 (wrap64 (rd ((x0.take ((wrap64 (x5 + x4)) : Int).toNat).drop (x5 : Int).toNat) 0)) bt746.1 (⟨#[]⟩ : ByteArray) (⟨#[]⟩ : ByteArray) ([] : List (S66))))) else (some (0, 0, (⟨#[]⟩ : ByteArray), (⟨#[]⟩ : ByteArray), ([] : List (S66)), 0)))) else (none)) else (none)) else (none)) else (none))
def F11.j1 : Nat → List Int → Int → Int → ByteArray → ByteArray → List (S66) → Option (Int × Int × ByteArray × ByteArray × (List (S66)) × Int)
 | 0, _, _, _, _, _, _ => none
 | k + 1, x0, x745000, x745001, x745002, x745003, x745004 => (F4.f k x745000 x745001 x745002 x745003 x745004).bind fun bt757 => (if bt757.2 = 0 then (if (bt757.1.length : Int) > (x0.length : Int) then (some (0, 0, (⟨#[]⟩ : ByteArray), (⟨#[]⟩ : ByteArray), ([] : List (S66)), 0)) else (if 0 ≤ (bt757.1.length : Int) then (if (bt757.1.length : Int) ≤ (x0.length : Int) then ((F47.f bt757.1 (x0.take ((bt757.1.length : Int) : Int).toNat)).bind fun t762 => (if t762 = true then (some (x745000, x745001, x745002, x745003, x745004, (bt757.1.length : Int))) else (some (0, 0, (⟨#[]⟩ : ByteArray), (⟨#[]⟩ : ByteArray), ([] : List (S66)), 0)))) else (none)) else (none))) else (some (0, 0, (⟨#[]⟩ : ByteArray), (⟨#[]⟩ : ByteArray), ([] : List (S66)), 0)))
end
def F11.f (k : Nat) (l0 : List Int) : Option (Int × Int × ByteArray × ByteArray × (List (S66)) × Int) := (F9.f k l0 0).bind fun bt740 => (if bt740.2.2 = 0 then (if bt740.1 < 2 then (F11.j0 k l0 bt740.1 bt740.2.1 true) else (F11.j0 k l0 bt740.1 bt740.2.1 (decide (bt740.1 > (wrap64 ((wrap64 ((l0.length : Int) - bt740.2.1)) - 4)))))) else (F11.j0 k l0 bt740.1 bt740.2.1 true))
theorem F11.mono_l : ∀ k, (∀ y0 y1 y2 y3, LeO (F11.j0 k y0 y1 y2 y3) (F11.j0 (k + 1) y0 y1 y2 y3)) ∧ (∀ y0 y1 y2 y3 y4 y5, LeO (F11.j1 k y0 y1 y2 y3 y4 y5) (F11.j1 (k + 1) y0 y1 y2 y3 y4 y5))
 | 0 => ⟨fun _ _ _ _ r h => by simp [F11.j0] at h, fun _ _ _ _ _ _ r h => by simp [F11.j1] at h⟩
 | k + 1 => by
  obtain ⟨ih0, ih1⟩ := F11.mono_l k
  refine ⟨?_, ?_⟩
  all_goals intros
  all_goals first | unfold F11.j0 | unfold F11.j1
  all_goals
   repeat' with_reducible first | exact ih0 _ _ _ _ | exact ih1 _ _ _ _ _ _ | exact F9.mono _ _ _ | exact F41.mono _ _ | exact F4.mono _ _ _ _ _ _ | exact LeO.refl _ | exact LeO.none _ | refine LeO.ite ?_ ?_ | refine LeO.bind ?_ (fun _ => ?_)
theorem F11.mono : ∀ a0 k, LeO (F11.f k a0) (F11.f (k + 1) a0) := by
 intro a0 k
 obtain ⟨ih0, ih1⟩ := F11.mono_l k
 unfold F11.f
 repeat' with_reducible first | exact ih0 _ _ _ _ | exact ih1 _ _ _ _ _ _ | exact F9.mono _ _ _ | exact F41.mono _ _ | exact F4.mono _ _ _ _ _ _ | exact LeO.refl _ | exact LeO.none _ | refine LeO.ite ?_ ?_ | refine LeO.bind ?_ (fun _ => ?_)
set_option maxHeartbeats 8000000 in
set_option maxRecDepth 100000 in
theorem F11.calls (k : Nat) (A0 : Option Addr) (c0 : Nat) (l0 : List Int) (r1 : Int) (r2 : Int) (r3 : ByteArray) (r4 : ByteArray) (r5 : List (S66)) (r6 : Int) (w : World) (hr0 : Kd.C (Kd.int .u8) w A0 l0.length l0) (hc0 : l0.length ≤ c0) (h : F11.f k l0 = some (r1, r2, r3, r4, r5, r6)) :
 Calls Try.prog 58 #[.slice A0 l0.length c0] w fun e w' => ∃ v4_ : Value, e = .returned (.tuple #[.agg #[.int .i64 r1, .int .i64 r2, .string r3, .string r4, v4_], .int .i64 r6]) ∧ Kd.S k66 66 w' w.heap.size (fun _ => True) v4_ r5 ∧ Below w.heap.size w w' := by
 have hu47 := Try.underlying47
 have hu31 := Try.underlying31
 have HR0 := zm hr0
 have HC0 := zm hc0
 clear hr0 hc0
 have HB := zm (Below.refl w.heap.size w)
 have H := h
 unfold F11.f at H
 clear h
 replace H := zbi H
 obtain ⟨⟨t740, t741, t742⟩, A2, H⟩ := H
 try dsimp only at H
 have HC3 := zm H
 clear H
 go_enter Try.func58, Try.ntmps58
 go_upto_region 2 with (first | ((with_reducible refine gate_dst (N := 2) rfl ?_); (try (refine gate_guard (by rfl) ?_; dsimp only)); refine box_event (by rfl) (N := 2) (by rfl) (cs := #[.int .i64 0, .int .i64 0, .string (⟨#[]⟩ : ByteArray), .string (⟨#[]⟩ : ByteArray), .slice none 0 0]) (t := 47) zgs ?_; intro gb739 hg w4 hbox hb; have BK739 := zm (hbox); have GW739 := zge hg (below_size (zh HB)); have GE739 := zge hg (below_size (zh HB)); replace HB := zm (below_step (zh HB) hb); clear hb hbox hg) | ((with_reducible refine gate_callee (f := 87) rfl ?_); refine zgl 16 Try.func87 #[.slice A0 l0.length c0, .int .i64 0] ?_; (with_reducible refine (F9.calls k _ _ l0 0 t740 t741 t742 _ ?side1 ?side2 A2.out).mono ?_); (case side1 => exact zC (Kd.C_below HR0.out HB.out)); (case side2 => exact HC0.out); rintro e w' ⟨rfl, ⟨nd, rfl⟩⟩; refine ⟨_, rfl, ?_⟩))
 (try simp only [Act.put, List.setIfInBounds_toArray, List.set_cons_zero, List.set_cons_succ])
 go_cut [34] (fun v34 wc => ∃ (kq : Nat) (x34_2 : Bool), v34 = .bool x34_2 ∧ Aside0 (F11.j0 kq l0 t740 t741 x34_2 = some (r1, r2, r3, r4, r5, r6)) ∧ Aside0 (kq ≤ k) ∧ Aside0 (wc.heap[gb739]? = some (.cells #[.int .i64 0, .int .i64 0, .string (⟨#[]⟩ : ByteArray), .string (⟨#[]⟩ : ByteArray), (.slice none 0 0)] 47 (0, 0))) ∧ Aside0 (Below w.heap.size w wc))
 case first =>
  have H := HC3.out
  clear HC3
  by_cases c5 : t742 = 0
  rotate_left
  ·rw [if_neg c5] at H
   have c5b0 := z2 c5
   have c5b1 := z4 c5
   (first | rw [c5b0] | (simp only [i64_w, i32_w]; rw [c5b0]) | skip)
   have H' := zm H
   clear H
   go_wp2
   go_meet
   case rel => exact ⟨_, (true), zrs, H', ⟨by first | omega | exact Nat.le_refl _⟩, ⟨zb BK739⟩, ⟨zg HB⟩⟩
  rw [if_pos c5] at H
  have c5b0 := z1 c5
  have c5b1 := z3 c5
  clear c5
  (first | rw [c5b0] | (simp only [i64_w, i32_w]; rw [c5b0]) | skip)
  by_cases c6 : t740 < 2
  ·rw [if_pos c6] at H
   have c6b0 := decide_eq_true c6
   clear c6
   have H' := zm H
   clear H
   go_wp2
   go_meet
   case rel => exact ⟨_, (true), zrs, H', ⟨by first | omega | exact Nat.le_refl _⟩, ⟨zb BK739⟩, ⟨zg HB⟩⟩
  rw [if_neg c6] at H
  have c6b0 := decide_eq_false c6
  clear c6
  have H' := zm H
  clear H
  go_wp2
  go_meet
  case rel => exact ⟨_, (decide (t740 > (wrap64 ((wrap64 ((l0.length : Int) - t741)) - 4)))), zrs, H', ⟨by first | omega | exact Nat.le_refl _⟩, ⟨zb BK739⟩, ⟨zg HB⟩⟩
 case rest =>
  clear HC3
  obtain ⟨kq, x34_2, rfl, HA, HJ2, BK739, HB⟩ := hcut
  cases kq with
  | zero => exact absurd HA.out (by simp [F11.j0])
  | succ kj2 =>
   have H := HA.out
   clear HA
   simp only [F11.j0] at H
   by_cases c7 : x34_2 = true
   ·subst c7
    rw [if_pos rfl] at H
    simp only [Option.some.injEq, Prod.mk.injEq] at H
    obtain ⟨rfl, rfl, rfl, rfl, rfl, rfl⟩ := H
    obtain ⟨⟨_, _, _, _, _⟩, _, _, _, _, _⟩ := zc5 BK739
    go_wp2
    refine bodyPost_ret (results_ct rfl _ _ gb739 47 #[.int .i64 0, .int .i64 0, .string (⟨#[]⟩ : ByteArray), .string (⟨#[]⟩ : ByteArray), .slice none 0 0] (0, 0) _ rfl (zp BK739) Try.underlying47 rfl (by kernel_rfl)) rfl ?_
    exact ⟨_, zre, by first | exact Kd.S_nil _ _ _ _ _ | exact Kd.N_nil _ _ _ _ _ | exact Kd.V_nil _ _ _ _ _ | exact Kd.Q_nil _ _ _ _ _ | exact Kd.R_nil _ _ _ _ _, zg HB⟩
   replace c7 := Bool.eq_false_iff.mpr c7
   subst c7
   rw [if_neg (show ¬ (false = true) by decide)] at H
   by_cases c9 : 0 ≤ t741
   rotate_left
   ·rw [if_neg c9] at H
    exact absurd H (by simp)

   rw [if_pos c9] at H
   have c9b0 := eq_true c9
   have c9b1 := decide_eq_true c9
   clear c9
   replace H := zif H
   obtain ⟨c10, H⟩ := H
   have c10b0 := eq_true c10
   have c10b1 := decide_eq_true c10
   replace H := zif H
   obtain ⟨c11, H⟩ := H
   have c11b0 := eq_true c11
   have c11b1 := decide_eq_true c11
   obtain ⟨lcu1_, hlcu1_⟩ : ∃ lc_ : List Int, lc_ = ((l0.take ((wrap64 (t741 + t740)) : Int).toNat).drop (t741 : Int).toNat) := ⟨_, rfl⟩
   rw [← hlcu1_] at H; replace hlcu1_ := zm hlcu1_
   replace H := zif H
   obtain ⟨c12, H⟩ := H
   have c12b0 := decide_eq_true c12
   have c12b1 : decide (0 < lcu1_.length) = true := decide_eq_true (by omega)
   clear c12
   replace H := zbi H
   obtain ⟨⟨t746, t747, t748⟩, A13, H⟩ := H
   try dsimp only at H
   by_cases c14 : t748 = 0
   rotate_left
   ·rw [if_neg c14] at H
    have c14b0 := z2 c14
    have c14b1 := z4 c14
    simp only [Option.some.injEq, Prod.mk.injEq] at H
    obtain ⟨rfl, rfl, rfl, rfl, rfl, rfl⟩ := H
    obtain ⟨i089, hi089, _, hsz89, _⟩ := info_parts info5
    obtain ⟨A89, hcut89, hA89, hC89⟩ := print_mid_of (P := Try.prog) (Value.int .u8) 0 26 5 .i64 .i64 Try.underlying26 hi089 hsz89 A0 c0 l0 t741 (wrap64 (t741 + t740)) (of_decide_eq_true zas) (by first | omega | exact of_decide_eq_true zas) (of_decide_eq_true zas) HC0.out
    (try simp only [← hlcu1_.out] at hcut89 hA89 hC89)
    have HR743 := zm (Kd.C_of_reads (h1 := fun _ => rfl) (hA89 _ (Kd.reads_of_C HR0.out)))
    have HC743 := zm hC89
    clear hA89 hC89 hi089 hsz89
    go_wp2_with (first | ((with_reducible refine gate_dst (N := 8) rfl ?_); (try (refine gate_guard (by rfl) ?_; dsimp only)); refine box_event (by rfl) (N := 8) (by rfl) (cs := #[.int .i64 0, .int .i64 0, .string (⟨#[]⟩ : ByteArray), .string (⟨#[]⟩ : ByteArray), .slice none 0 0]) (t := 47) zgs ?_; intro gb744 hg w90 hbox hb; have BK744 := zm (hbox); have GW744 := zge hg (below_size (zg HB)); have GE744 := zge hg (below_size (zg HB)); replace HB := zm (below_step (zg HB) hb); obtain ⟨NB739_744, NB744_739⟩ := znn hg (blk_lt (zb BK739)); replace BK739 := zbb BK739 hb; clear hb hbox hg; have p745 : 0 ≤ (0 : Int) := (by omega); have q745 : 0 < (lcu1_.length : Int) := of_decide_eq_true zas; obtain ⟨ad745, e745, hx745_0⟩ := Kd.at_int HR743.out 0 p745 q745; cases e745; have qi745 : (0 < lcu1_.length) = True := eq_true (by omega); (try rw [show ((0 : Int)).toNat = 0 from rfl] at hx745_0); (try rw [Addr.add_zero'] at hx745_0); replace hx745_0 := zx HB hx745_0; replace p745 := eq_true p745; replace q745 := eq_true q745; obtain ⟨_, _⟩ := zne NB744_739; obtain ⟨⟨_, _, _, _, _⟩, _, _, _, _, _⟩ := zc5 BK744) | ((with_reducible refine gate_callee (f := 87) rfl ?_); refine goesL_ (some 49) rfl rfl Try.func87 (by kernel_rfl) rfl #[.slice (some ad745) lcu1_.length (c0 - t741.toNat), .int .i64 1] rfl (by (try simp only [List.map_toArray, List.map_cons, List.map_nil]); first | done | (rw [show lcu1_.length = ((wrap64 (t741 + t740)).toNat - t741.toNat) from (by rw [List.length_drop, List.length_take]; have h_ : ((wrap64 (t741 + t740)) : Int) ≤ (l0.length : Int) := of_decide_eq_true zas; omega)] <;> rfl) | rfl | (simp only [List.length_drop, List.length_take]; rfl)) ?_; (with_reducible refine (F9.calls kj2 _ _ lcu1_ 1 t746 t747 t748 _ ?side1 ?side2 A13.out).mono ?_); (case side1 => exact Kd.C_below HR743.out (zg HB)); (case side2 => exact HC743.out); rintro e w' ⟨rfl, ⟨nd, rfl⟩⟩; refine ⟨_, rfl, ?_⟩; obtain ⟨⟨_, _, _, _, _⟩, _, _, _, _, _⟩ := zc5 BK739))
    refine bodyPost_ret (results_ct rfl _ _ gb739 47 #[.int .i64 0, .int .i64 0, .string (⟨#[]⟩ : ByteArray), .string (⟨#[]⟩ : ByteArray), .slice none 0 0] (0, 0) _ rfl (zp BK739) Try.underlying47 rfl (by kernel_rfl)) rfl ?_
    exact ⟨_, zre, by first | exact Kd.S_nil _ _ _ _ _ | exact Kd.N_nil _ _ _ _ _ | exact Kd.V_nil _ _ _ _ _ | exact Kd.Q_nil _ _ _ _ _ | exact Kd.R_nil _ _ _ _ _, zg HB⟩
   rw [if_pos c14] at H
   have c14b0 := z1 c14
   have c14b1 := z3 c14
   clear c14
   have HC15 := zm H
   clear H
   obtain ⟨i016, hi016, _, hsz16, _⟩ := info_parts info5
   obtain ⟨A16, hcut16, hA16, hC16⟩ := print_mid_of (P := Try.prog) (Value.int .u8) 0 26 5 .i64 .i64 Try.underlying26 hi016 hsz16 A0 c0 l0 t741 (wrap64 (t741 + t740)) (of_decide_eq_true zas) (by first | omega | exact of_decide_eq_true zas) (of_decide_eq_true zas) HC0.out
   (try simp only [← hlcu1_.out] at hcut16 hA16 hC16)
   have HR743 := zm (Kd.C_of_reads (h1 := fun _ => rfl) (hA16 _ (Kd.reads_of_C HR0.out)))
   have HC743 := zm hC16
   clear hA16 hC16 hi016 hsz16
   go_upto_block 0 with (first | ((with_reducible refine gate_dst (N := 8) rfl ?_); (try (refine gate_guard (by rfl) ?_; dsimp only)); refine box_event (by rfl) (N := 8) (by rfl) (cs := #[.int .i64 0, .int .i64 0, .string (⟨#[]⟩ : ByteArray), .string (⟨#[]⟩ : ByteArray), .slice none 0 0]) (t := 47) zgs ?_; intro gb744 hg w17 hbox hb; have BK744 := zm (hbox); have GW744 := zge hg (below_size (zg HB)); have GE744 := zge hg (below_size (zg HB)); replace HB := zm (below_step (zg HB) hb); obtain ⟨NB739_744, NB744_739⟩ := znn hg (blk_lt (zb BK739)); replace BK739 := zbb BK739 hb; clear hb hbox hg; have p745 : 0 ≤ (0 : Int) := (by omega); have q745 : 0 < (lcu1_.length : Int) := of_decide_eq_true zas; obtain ⟨ad745, e745, hx745_0⟩ := Kd.at_int HR743.out 0 p745 q745; cases e745; have qi745 : (0 < lcu1_.length) = True := eq_true (by omega); (try rw [show ((0 : Int)).toNat = 0 from rfl] at hx745_0); (try rw [Addr.add_zero'] at hx745_0); replace hx745_0 := zx HB hx745_0; replace p745 := eq_true p745; replace q745 := eq_true q745; obtain ⟨_, _⟩ := zne NB744_739; obtain ⟨⟨hcz19_0, hcz19_1, hcz19_2, hcz19_3, hcz19_4⟩, hfz19_0, hfz19_1, hfz19_2, hfz19_3, hfz19_4⟩ := zc5 BK744) | ((with_reducible refine gate_callee (f := 87) rfl ?_); refine goesL_ (some 49) rfl rfl Try.func87 (by kernel_rfl) rfl #[.slice (some ad745) lcu1_.length (c0 - t741.toNat), .int .i64 1] rfl (by (try simp only [List.map_toArray, List.map_cons, List.map_nil]); first | done | (rw [show lcu1_.length = ((wrap64 (t741 + t740)).toNat - t741.toNat) from (by rw [List.length_drop, List.length_take]; have h_ : ((wrap64 (t741 + t740)) : Int) ≤ (l0.length : Int) := of_decide_eq_true zas; omega)] <;> rfl) | rfl | (simp only [List.length_drop, List.length_take]; rfl)) ?_; (with_reducible refine (F9.calls kj2 _ _ lcu1_ 1 t746 t747 t748 _ ?side1 ?side2 A13.out).mono ?_); (case side1 => exact Kd.C_below HR743.out (zg HB)); (case side2 => exact HC743.out); rintro e w' ⟨rfl, ⟨nd, rfl⟩⟩; refine ⟨_, rfl, ?_⟩))
   (try simp only [Act.put, List.setIfInBounds_toArray, List.set_cons_zero, List.set_cons_succ])
   go_cut [] (fun wc => ∃ (kq : Nat) (x740000_14 : Int) (x740001_14 : Int) (x740002_14 : ByteArray) (x740003_14 : ByteArray) (x745002_14 : ByteArray) (x745003_14 : ByteArray) (x745004_14 : List (S66)) (u745004 : Value), Aside0 (F11.j1 kq l0 (wrap64 (rd lcu1_ 0)) t746 x745002_14 x745003_14 x745004_14 = some (r1, r2, r3, r4, r5, r6)) ∧ Aside0 (kq ≤ kj2) ∧ Aside0 (Kd.S k66 66 wc w.heap.size (fun _ => True) u745004 x745004_14) ∧ Aside0 (wc.heap[gb739]? = some (.cells #[.int .i64 x740000_14, .int .i64 x740001_14, .string x740002_14, .string x740003_14, (.slice none 0 0)] 47 (0, 0))) ∧ Aside0 (wc.heap[gb744]? = some (.cells #[.int .i64 (wrap64 (rd lcu1_ 0)), .int .i64 t746, .string x745002_14, .string x745003_14, u745004] 47 (0, 0))) ∧ Aside0 (Below w.heap.size w wc))
   case first =>
    have H := HC15.out
    clear HC15
    by_cases c20 : (wrap64 (rd lcu1_ 0)) = 1
    rotate_left
    ·rw [if_neg c20] at H
     have c20b0 := z2 c20
     have c20b1 := z4 c20
     (first | rw [c20b0] | (simp only [i64_w, i32_w]; rw [c20b0]) | skip)
     by_cases c45 : (wrap64 (rd lcu1_ 0)) = 2
     rotate_left
     ·rw [if_neg c45] at H
      have c45b0 := z2 c45
      have c45b1 := z4 c45
      have H' := zm H
      clear H
      go_wp2
      go_meet
      case rel => exact ⟨_, (0), (0), ((⟨#[]⟩ : ByteArray)), ((⟨#[]⟩ : ByteArray)), ((⟨#[]⟩ : ByteArray)), ((⟨#[]⟩ : ByteArray)), (([] : List (S66))), (.slice none 0 0), H', ⟨by have := HJ2.out; first | omega | exact Nat.le_refl _⟩, ⟨by first | exact Kd.S_nil _ _ _ _ _ | exact Kd.N_nil _ _ _ _ _ | exact Kd.V_nil _ _ _ _ _ | exact Kd.Q_nil _ _ _ _ _ | exact Kd.R_nil _ _ _ _ _⟩, ⟨zp BK739⟩, ⟨zp BK744⟩, ⟨zg HB⟩⟩
     rw [if_pos c45] at H
     have c45b0 := z1 c45
     have c45b1 := z3 c45
     clear c45
     replace H := zif H
     obtain ⟨c46, H⟩ := H
     have c46b0 := eq_true c46
     have c46b1 := decide_eq_true c46
     clear c46
     replace H := zif H
     obtain ⟨c47, H⟩ := H
     have c47b0 := eq_true c47
     have c47b1 := decide_eq_true c47
     have H' := zm H
     clear H
     obtain ⟨i048, hi048, _, hsz48, _⟩ := info_parts info5
     obtain ⟨A48, hcut48, hA48, hC48⟩ := print_drop_of (P := Try.prog) (Value.int .u8) 0 26 5 .i64 Try.underlying26 hi048 hsz48 (some ad745) (c0 - t741.toNat) lcu1_ t747 (of_decide_eq_true zas) (of_decide_eq_true zas) HC743.out
     have HR756 := zm (Kd.C_of_reads (h1 := fun _ => rfl) (hA48 _ (Kd.reads_of_C HR743.out)))
     have HC756 := zm hC48
     clear hA48 hC48 hi048 hsz48
     have hcv49 := Kd.C_string (P := Try.prog) (A := A48) (c := ((c0 - t741.toNat) - t747.toNat)) Try.underlying26 Try.underlying5 Try.underlying9 (Kd.C_below HR756.out HB.out)
     have hcv49l := hcv49; (try simp only [List.length_drop] at hcv49l)
     have hcv49s := fun (o1_ : Nat) (v1_ : Value) => Kd.C_string (P := Try.prog) (A := A48) (c := ((c0 - t741.toNat) - t747.toNat)) Try.underlying26 Try.underlying5 Try.underlying9 (Kd.C_below HR756.out (below_set (g := gb744) (j := o1_) (v := v1_) HB.out GE744.out)); (try simp only [List.length_drop] at hcv49s)
     have hcv49t := fun (o1_ : Nat) (v1_ : Value) (n_ : Nat) (o2_ : Nat) (v2_ : Value) => Kd.C_string (P := Try.prog) (A := A48) (c := ((c0 - t741.toNat) - t747.toNat)) Try.underlying26 Try.underlying5 Try.underlying9 (Kd.C_below HR756.out (below_set (g := gb744) (j := o2_) (v := v2_) (pw_below_drewN (below_set (g := gb744) (j := o1_) (v := v1_) HB.out GE744.out) n_) GE744.out)); (try simp only [List.length_drop] at hcv49t)
     obtain ⟨_, _⟩ := zne NB744_739
     obtain ⟨⟨_, _, _, _, _⟩, _, _, _, _, _⟩ := zc5 BK744
     go_wp2
     go_meet
     case rel => exact ⟨_, (0), (0), ((⟨#[]⟩ : ByteArray)), ((⟨#[]⟩ : ByteArray)), (strOfNums (lcu1_.drop (t747 : Int).toNat)), ((⟨#[]⟩ : ByteArray)), (([] : List (S66))), (.slice none 0 0), H', ⟨by have := HJ2.out; first | omega | exact Nat.le_refl _⟩, ⟨by first | exact Kd.S_nil _ _ _ _ _ | exact Kd.N_nil _ _ _ _ _ | exact Kd.V_nil _ _ _ _ _ | exact Kd.Q_nil _ _ _ _ _ | exact Kd.R_nil _ _ _ _ _⟩, ⟨zp BK739⟩, ⟨zp BK744⟩, ⟨zg HB⟩⟩
    rw [if_pos c20] at H
    have c20b0 := z1 c20
    have c20b1 := z3 c20
    clear c20
    (first | rw [c20b0] | (simp only [i64_w, i32_w]; rw [c20b0]) | skip)
    replace H := zif H
    obtain ⟨c21, H⟩ := H
    have c21b0 := eq_true c21
    have c21b1 := decide_eq_true c21
    clear c21
    replace H := zif H
    obtain ⟨c22, H⟩ := H
    have c22b0 := eq_true c22
    have c22b1 := decide_eq_true c22
    replace H := zbi H
    obtain ⟨⟨t750, t751, t754⟩, A23, H⟩ := H
    try dsimp only at H
    by_cases c24 : t754 = 0
    rotate_left
    ·rw [if_neg c24] at H
     have c24b0 := z2 c24
     have c24b1 := z4 c24
     simp only [Option.some.injEq, Prod.mk.injEq] at H
     obtain ⟨rfl, rfl, rfl, rfl, rfl, rfl⟩ := H
     obtain ⟨i035, hi035, _, hsz35, _⟩ := info_parts info5
     obtain ⟨A35, hcut35, hA35, hC35⟩ := print_drop_of (P := Try.prog) (Value.int .u8) 0 26 5 .i64 Try.underlying26 hi035 hsz35 (some ad745) (c0 - t741.toNat) lcu1_ t747 (of_decide_eq_true zas) (of_decide_eq_true zas) HC743.out
     have HR749 := zm (Kd.C_of_reads (h1 := fun _ => rfl) (hA35 _ (Kd.reads_of_C HR743.out)))
     have HC749 := zm hC35
     clear hA35 hC35 hi035 hsz35
     go_wp2_with (first | ((with_reducible refine gate_callee (f := 19) rfl ?_); refine goesL_ (some 66) rfl rfl Try.func19 (by kernel_rfl) rfl #[.slice A35 (lcu1_.drop (t747 : Int).toNat).length ((c0 - t741.toNat) - t747.toNat)] rfl (by (try simp only [List.map_toArray, List.map_cons, List.map_nil]); first | done | (rw [show (lcu1_.drop (t747 : Int).toNat).length = (lcu1_.length - t747.toNat) from List.length_drop] <;> rfl) | rfl | (simp only [List.length_drop, List.length_take]; rfl)) ?_; (with_reducible refine (F41.calls kj2 _ _ (lcu1_.drop (t747 : Int).toNat) t750 t751 t754 _ ?side1 ?side2 A23.out).mono ?_); (case side1 => exact Kd.C_below HR749.out (zg HB)); (case side2 => exact HC749.out); rintro e w36 ⟨v752, rfl, ho0, hb⟩; refine ⟨_, rfl, ?_⟩; have HO753 := zm (Kd.S_lower ho0 (below_size (zg HB))); replace BK739 := zm (blk_below (g := gb739) (o := .cells #[.int .i64 0, .int .i64 0, .string (⟨#[]⟩ : ByteArray), .string (⟨#[]⟩ : ByteArray), .slice none 0 0] 47 (0, 0)) (zp BK739) hb); replace BK744 := zm (blk_below (g := gb744) (o := .cells #[.int .i64 (wrap64 (rd lcu1_ 0)), .int .i64 t746, .string (⟨#[]⟩ : ByteArray), .string (⟨#[]⟩ : ByteArray), .slice none 0 0] 47 (0, 0)) (zp BK744) hb); replace HB := zm (below_step (zg HB) hb); (try clear hb ho0)) | ((with_reducible refine gate_dst (N := 11) rfl ?_); (try (refine gate_guard (by rfl) ?_; dsimp only)); refine box_event (by rfl) (N := 11) (by rfl) (cs := #[.string (⟨#[]⟩ : ByteArray), .slice none 0 0]) (t := 31) zgs ?_; intro gb755 hg w38 hbox hb; replace HO753 := zm (Kd.S_below (zs HO753) hb); have BK755 := zm (hbox); have GW755 := zge hg (below_size (zg HB)); have GE755 := zge hg (below_size (zg HB)); replace HB := zm (below_step (zg HB) hb); obtain ⟨NB739_755, NB755_739⟩ := znn hg (blk_lt (zb BK739)); replace BK739 := zbb BK739 hb; obtain ⟨NB744_755, NB755_744⟩ := znn hg (blk_lt (zb BK744)); replace BK744 := zbb BK744 hb; clear hb hbox hg; obtain ⟨_, _⟩ := zne NB755_739; obtain ⟨_, _⟩ := zne NB755_744; obtain ⟨⟨_, _⟩, _, _⟩ := zc2 BK755; obtain ⟨Ao42, co42, eo42⟩ := Kd.S_slice HO753.out; subst eo42; obtain ⟨_, _⟩ := zne NB739_744; obtain ⟨⟨_, _, _, _, _⟩, _, _, _, _, _⟩ := zc5 BK739))
     refine bodyPost_ret (results_ct rfl _ _ gb739 47 #[.int .i64 0, .int .i64 0, .string (⟨#[]⟩ : ByteArray), .string (⟨#[]⟩ : ByteArray), .slice none 0 0] (0, 0) _ rfl (zp BK739) Try.underlying47 rfl (by kernel_rfl)) rfl ?_
     exact ⟨_, zre, by first | exact Kd.S_nil _ _ _ _ _ | exact Kd.N_nil _ _ _ _ _ | exact Kd.V_nil _ _ _ _ _ | exact Kd.Q_nil _ _ _ _ _ | exact Kd.R_nil _ _ _ _ _, zg HB⟩
    rw [if_pos c24] at H
    have c24b0 := z1 c24
    have c24b1 := z3 c24
    clear c24
    have H' := zm H
    clear H
    obtain ⟨i025, hi025, _, hsz25, _⟩ := info_parts info5
    obtain ⟨A25, hcut25, hA25, hC25⟩ := print_drop_of (P := Try.prog) (Value.int .u8) 0 26 5 .i64 Try.underlying26 hi025 hsz25 (some ad745) (c0 - t741.toNat) lcu1_ t747 (of_decide_eq_true zas) (of_decide_eq_true zas) HC743.out
    have HR749 := zm (Kd.C_of_reads (h1 := fun _ => rfl) (hA25 _ (Kd.reads_of_C HR743.out)))
    have HC749 := zm hC25
    clear hA25 hC25 hi025 hsz25
    go_wp2_with (first | ((with_reducible refine gate_callee (f := 19) rfl ?_); refine goesL_ (some 66) rfl rfl Try.func19 (by kernel_rfl) rfl #[.slice A25 (lcu1_.drop (t747 : Int).toNat).length ((c0 - t741.toNat) - t747.toNat)] rfl (by (try simp only [List.map_toArray, List.map_cons, List.map_nil]); first | done | (rw [show (lcu1_.drop (t747 : Int).toNat).length = (lcu1_.length - t747.toNat) from List.length_drop] <;> rfl) | rfl | (simp only [List.length_drop, List.length_take]; rfl)) ?_; (with_reducible refine (F41.calls kj2 _ _ (lcu1_.drop (t747 : Int).toNat) t750 t751 t754 _ ?side1 ?side2 A23.out).mono ?_); (case side1 => exact Kd.C_below HR749.out (zg HB)); (case side2 => exact HC749.out); rintro e w26 ⟨v752, rfl, ho0, hb⟩; refine ⟨_, rfl, ?_⟩; have HO753 := zm (Kd.S_lower ho0 (below_size (zg HB))); replace BK739 := zm (blk_below (g := gb739) (o := .cells #[.int .i64 0, .int .i64 0, .string (⟨#[]⟩ : ByteArray), .string (⟨#[]⟩ : ByteArray), .slice none 0 0] 47 (0, 0)) (zp BK739) hb); replace BK744 := zm (blk_below (g := gb744) (o := .cells #[.int .i64 (wrap64 (rd lcu1_ 0)), .int .i64 t746, .string (⟨#[]⟩ : ByteArray), .string (⟨#[]⟩ : ByteArray), .slice none 0 0] 47 (0, 0)) (zp BK744) hb); replace HB := zm (below_step (zg HB) hb); (try clear hb ho0)) | ((with_reducible refine gate_dst (N := 11) rfl ?_); (try (refine gate_guard (by rfl) ?_; dsimp only)); refine box_event (by rfl) (N := 11) (by rfl) (cs := #[.string (⟨#[]⟩ : ByteArray), .slice none 0 0]) (t := 31) zgs ?_; intro gb755 hg w28 hbox hb; replace HO753 := zm (Kd.S_below (zs HO753) hb); have BK755 := zm (hbox); have GW755 := zge hg (below_size (zg HB)); have GE755 := zge hg (below_size (zg HB)); replace HB := zm (below_step (zg HB) hb); obtain ⟨NB739_755, NB755_739⟩ := znn hg (blk_lt (zb BK739)); replace BK739 := zbb BK739 hb; obtain ⟨NB744_755, NB755_744⟩ := znn hg (blk_lt (zb BK744)); replace BK744 := zbb BK744 hb; clear hb hbox hg; obtain ⟨_, _⟩ := zne NB755_739; obtain ⟨_, _⟩ := zne NB755_744; obtain ⟨⟨_, _⟩, _, _⟩ := zc2 BK755; obtain ⟨Ao32, co32, eo32⟩ := Kd.S_slice HO753.out; subst eo32; obtain ⟨_, _⟩ := zne NB744_739; obtain ⟨⟨_, _, _, _, _⟩, _, _, _, _, _⟩ := zc5 BK744))
    go_meet
    case rel => exact ⟨_, (0), (0), ((⟨#[]⟩ : ByteArray)), ((⟨#[]⟩ : ByteArray)), ((⟨#[]⟩ : ByteArray)), (t750), (t751), (.slice Ao32 t751.length co32), H', ⟨by have := HJ2.out; first | omega | exact Nat.le_refl _⟩, ⟨by (with_reducible repeat (first | apply Kd.S_alloc | apply Kd.S_drewN | apply Kd.S_drew)); exact Kd.S_mono (zfS gb744 4 (zfS gb744 3 (Kd.S_far (p := ⟨gb755, 1, none⟩) (Kd.S_far (p := ⟨gb755, 0, none⟩) (Kd.S_types (Kd.S_types HO753.out BK755.out (by decide)) BK744.out (by decide)) (fun _ hk => hk.1.2) (.string t750)) (fun _ hk => hk.1.2) (.slice Ao32 t751.length co32)) (.string t750)) (.slice Ao32 t751.length co32)) (fun _ hk => trivial)⟩, ⟨zp BK739⟩, ⟨zp BK744⟩, ⟨zg HB⟩⟩
   case rest =>
    clear HC15
    try clear c7
    try clear c9
    try clear c9b0
    try clear c9b1
    try clear c10
    try clear c10b0
    try clear c10b1
    try clear c11
    try clear c11b0
    try clear c11b1
    try clear c12
    try clear c12b0
    try clear c12b1
    try clear c14
    try clear c14b0
    try clear c14b1
    try clear hcz19_0 hcz19_1 hcz19_2 hcz19_3 hcz19_4
    try clear hfz19_0 hfz19_1 hfz19_2 hfz19_3 hfz19_4
    try clear hx745_0
    try clear p745
    try clear q745
    obtain ⟨kq, x740000_14, x740001_14, x740002_14, x740003_14, x745002_14, x745003_14, x745004_14, u745004, HA, HJ14, HO_745004, BK739, BK744, HB⟩ := hcut
    cases kq with
    | zero => exact absurd HA.out (by simp [F11.j1])
    | succ kj14 =>
     have H := HA.out
     clear HA
     simp only [F11.j1] at H
     replace H := zbi H
     obtain ⟨⟨t757, t760⟩, A52, H⟩ := H
     try dsimp only at H
     by_cases c53 : t760 = 0
     rotate_left
     ·rw [if_neg c53] at H
      have c53b0 := z2 c53
      have c53b1 := z4 c53
      simp only [Option.some.injEq, Prod.mk.injEq] at H
      obtain ⟨rfl, rfl, rfl, rfl, rfl, rfl⟩ := H
      obtain ⟨_, _⟩ := zne NB744_739
      obtain ⟨⟨_, _, _, _, _⟩, _, _, _, _, _⟩ := zc5 BK744
      obtain ⟨Ao85, co85, eo85⟩ := Kd.S_slice HO_745004.out
      subst eo85
      go_wp2_with (first | ((with_reducible refine gate_callee (f := 24) rfl ?_); refine zgl 83 Try.func24 #[.agg #[.int .i64 (wrap64 (rd lcu1_ 0)), .int .i64 t746, .string x745002_14, .string x745003_14, .slice Ao85 x745004_14.length co85]] ?_; (with_reducible refine (F4.calls kj14 (wrap64 (rd lcu1_ 0)) t746 x745002_14 x745003_14 _ _ x745004_14 t757 t760 _ ?side1 ?side2 A52.out).mono ?_); (case side1 => exact zC (Kd.S_reads' HO_745004.out).2.2); (case side2 => exact (Kd.S_reads' HO_745004.out).2.1); rintro e w86 ⟨v758, rfl, ho0, hb⟩; refine ⟨_, rfl, ?_⟩; replace HO_745004 := zm (Kd.S_below (zs HO_745004) hb); have HO759 := zm (Kd.R_lower ho0 (below_size (zg HB))); replace BK739 := zbb BK739 hb; replace BK744 := zbb BK744 hb; replace HB := zm (below_step (zg HB) hb); (try clear hb ho0); obtain ⟨⟨_, _, _, _, _⟩, _, _, _, _, _⟩ := zc5 BK739))
      refine bodyPost_ret (results_ct rfl _ _ gb739 47 #[.int .i64 0, .int .i64 0, .string (⟨#[]⟩ : ByteArray), .string (⟨#[]⟩ : ByteArray), .slice none 0 0] (0, 0) _ rfl (zp BK739) Try.underlying47 rfl (by kernel_rfl)) rfl ?_
      exact ⟨_, zre, by first | exact Kd.S_nil _ _ _ _ _ | exact Kd.N_nil _ _ _ _ _ | exact Kd.V_nil _ _ _ _ _ | exact Kd.Q_nil _ _ _ _ _ | exact Kd.R_nil _ _ _ _ _, zg HB⟩
     rw [if_pos c53] at H
     have c53b0 := z1 c53
     have c53b1 := z3 c53
     clear c53
     by_cases c54 : (t757.length : Int) > (l0.length : Int)
     ·rw [if_pos c54] at H
      have c54b0 := decide_eq_true c54
      have c54b1 : decide (l0.length < t757.length) = true := decide_eq_true (Int.ofNat_lt.mp c54)
      clear c54
      simp only [Option.some.injEq, Prod.mk.injEq] at H
      obtain ⟨rfl, rfl, rfl, rfl, rfl, rfl⟩ := H
      obtain ⟨_, _⟩ := zne NB744_739
      obtain ⟨⟨_, _, _, _, _⟩, _, _, _, _, _⟩ := zc5 BK744
      obtain ⟨Ao57, co57, eo57⟩ := Kd.S_slice HO_745004.out
      subst eo57
      go_wp2_with (first | ((with_reducible refine gate_callee (f := 24) rfl ?_); refine zgl 83 Try.func24 #[.agg #[.int .i64 (wrap64 (rd lcu1_ 0)), .int .i64 t746, .string x745002_14, .string x745003_14, .slice Ao57 x745004_14.length co57]] ?_; (with_reducible refine (F4.calls kj14 (wrap64 (rd lcu1_ 0)) t746 x745002_14 x745003_14 _ _ x745004_14 t757 t760 _ ?side1 ?side2 A52.out).mono ?_); (case side1 => exact zC (Kd.S_reads' HO_745004.out).2.2); (case side2 => exact (Kd.S_reads' HO_745004.out).2.1); rintro e w58 ⟨v758, rfl, ho0, hb⟩; refine ⟨_, rfl, ?_⟩; replace HO_745004 := zm (Kd.S_below (zs HO_745004) hb); have HO759 := zm (Kd.R_lower ho0 (below_size (zg HB))); replace BK739 := zbb BK739 hb; replace BK744 := zbb BK744 hb; replace HB := zm (below_step (zg HB) hb); (try clear hb ho0); obtain ⟨Ao60, co60, eo60⟩ := Kd.R_slice HO759.out; subst eo60; obtain ⟨⟨_, _, _, _, _⟩, _, _, _, _, _⟩ := zc5 BK739))
      refine bodyPost_ret (results_ct rfl _ _ gb739 47 #[.int .i64 0, .int .i64 0, .string (⟨#[]⟩ : ByteArray), .string (⟨#[]⟩ : ByteArray), .slice none 0 0] (0, 0) _ rfl (zp BK739) Try.underlying47 rfl (by kernel_rfl)) rfl ?_
      exact ⟨_, zre, by first | exact Kd.S_nil _ _ _ _ _ | exact Kd.N_nil _ _ _ _ _ | exact Kd.V_nil _ _ _ _ _ | exact Kd.Q_nil _ _ _ _ _ | exact Kd.R_nil _ _ _ _ _, zg HB⟩
     rw [if_neg c54] at H
     have c54b0 := decide_eq_false c54
     have c54b1 : decide (l0.length < t757.length) = false := decide_eq_false (fun h => c54 (Int.ofNat_lt.mpr h))
     clear c54
     replace H := zif H
     obtain ⟨c62, H⟩ := H
     have c62b0 := eq_true c62
     have c62b1 := decide_eq_true c62
     clear c62
     replace H := zif H
     obtain ⟨c63, H⟩ := H
     have c63b0 := eq_true c63
     have c63b1 := decide_eq_true c63
     clear c63
     replace H := zbi H
     obtain ⟨t762, A64, H⟩ := H
     try dsimp only at H
     by_cases c65 : t762 = true
     rotate_left
     ·replace c65 := Bool.eq_false_iff.mpr c65
      subst c65
      rw [if_neg (show ¬ (false = true) by decide)] at H
      simp only [Option.some.injEq, Prod.mk.injEq] at H
      obtain ⟨rfl, rfl, rfl, rfl, rfl, rfl⟩ := H
      obtain ⟨_, _⟩ := zne NB744_739
      obtain ⟨⟨_, _, _, _, _⟩, _, _, _, _, _⟩ := zc5 BK744
      obtain ⟨Ao77, co77, eo77⟩ := Kd.S_slice HO_745004.out
      subst eo77
      go_wp2_with (first | ((with_reducible refine gate_callee (f := 24) rfl ?_); refine zgl 83 Try.func24 #[.agg #[.int .i64 (wrap64 (rd lcu1_ 0)), .int .i64 t746, .string x745002_14, .string x745003_14, .slice Ao77 x745004_14.length co77]] ?_; (with_reducible refine (F4.calls kj14 (wrap64 (rd lcu1_ 0)) t746 x745002_14 x745003_14 _ _ x745004_14 t757 t760 _ ?side1 ?side2 A52.out).mono ?_); (case side1 => exact zC (Kd.S_reads' HO_745004.out).2.2); (case side2 => exact (Kd.S_reads' HO_745004.out).2.1); rintro e w78 ⟨v758, rfl, ho0, hb⟩; refine ⟨_, rfl, ?_⟩; replace HO_745004 := zm (Kd.S_below (zs HO_745004) hb); have HO759 := zm (Kd.R_lower ho0 (below_size (zg HB))); replace BK739 := zbb BK739 hb; replace BK744 := zbb BK744 hb; replace HB := zm (below_step (zg HB) hb); (try clear hb ho0); obtain ⟨Ao80, co80, eo80⟩ := Kd.R_slice HO759.out; subst eo80; obtain ⟨i081, hi081, _, hsz81, _⟩ := info_parts info5; obtain ⟨hcut81, hA81, hC81⟩ := print_take_of (P := Try.prog) (Value.int .u8) 0 26 5 .i64 Try.underlying26 hi081 hsz81 A0 c0 l0 (t757.length : Int) (of_decide_eq_true zas) (of_decide_eq_true zas) HC0.out; have HR761 := zm (Kd.C_of_reads (h1 := fun _ => rfl) (hA81 _ (Kd.reads_of_C HR0.out))); have HC761 := zm hC81; clear hA81 hC81 hi081 hsz81) | (go_at_call 88; refine calls_of_args (args' := #[.slice Ao80 t757.length co80, .slice A0 (l0.take ((t757.length : Int) : Int).toNat).length c0]) (by first | (rw [show (l0.take ((t757.length : Int) : Int).toNat).length = (t757.length : Int).toNat from (by rw [List.length_take]; have h_ : ((t757.length : Int) : Int) ≤ (l0.length : Int) := of_decide_eq_true zas; omega)] <;> rfl) | rfl | (simp only [List.length_take, Int.toNat_natCast]; done)) ?_; (with_reducible refine (F47.calls _ _ t757 _ _ (l0.take ((t757.length : Int) : Int).toNat) false _ ?side1 ?side2 ?side3 ?side4 A64.out).mono ?_); (case side1 => exact zC (Kd.R_reads' HO759.out).2.2); (case side2 => exact (Kd.R_reads' HO759.out).2.1); (case side3 => exact zC (Kd.C_below HR761.out HB.out)); (case side4 => exact HC761.out); rintro e w' ⟨rfl, ⟨nd, rfl⟩⟩; (try (rw [drewN_self w78]; generalize hq_ : World.drewN w78 _ = w78; have n0_ : Aside0 (Kd.R (Kd.int .u8) 5 w78 w.heap.size (fun _ => True) (.slice Ao80 t757.length co80) t757) := ⟨by rw [← hq_]; exact (zr HO759)⟩; have n1_ : Aside0 (Kd.S k66 66 w78 w.heap.size (fun _ => True) (.slice Ao77 x745004_14.length co77) x745004_14) := ⟨by rw [← hq_]; exact (zs HO_745004)⟩; have n2_ : Aside0 (w78.heap[gb739]? = some (.cells #[.int .i64 x740000_14, .int .i64 x740001_14, .string x740002_14, .string x740003_14, .slice none 0 0] 47 (0, 0))) := ⟨by rw [← hq_]; exact (zb BK739)⟩; have n3_ : Aside0 (w78.heap[gb744]? = some (.cells #[.int .i64 (wrap64 (rd lcu1_ 0)), .int .i64 t746, .string x745002_14, .string x745003_14, .slice Ao77 x745004_14.length co77] 47 (0, 0))) := ⟨by rw [← hq_]; exact (zb BK744)⟩; have n4_ : Aside0 (Below w.heap.size w w78) := ⟨by rw [← hq_]; exact (zg HB)⟩; clear HO759 HO_745004 BK739 BK744 HB hq_; have HO759 := n0_; have HO_745004 := n1_; have BK739 := n2_; have BK744 := n3_; have HB := n4_; clear n0_ n1_ n2_ n3_ n4_)); obtain ⟨⟨_, _, _, _, _⟩, _, _, _, _, _⟩ := zc5 BK739))
      refine bodyPost_ret (results_ct rfl _ _ gb739 47 #[.int .i64 0, .int .i64 0, .string (⟨#[]⟩ : ByteArray), .string (⟨#[]⟩ : ByteArray), .slice none 0 0] (0, 0) _ rfl (zp BK739) Try.underlying47 rfl (by kernel_rfl)) rfl ?_
      exact ⟨_, zre, by first | exact Kd.S_nil _ _ _ _ _ | exact Kd.N_nil _ _ _ _ _ | exact Kd.V_nil _ _ _ _ _ | exact Kd.Q_nil _ _ _ _ _ | exact Kd.R_nil _ _ _ _ _, zg HB⟩
     subst c65
     rw [if_pos rfl] at H
     simp only [Option.some.injEq, Prod.mk.injEq] at H
     obtain ⟨rfl, rfl, rfl, rfl, rfl, rfl⟩ := H
     obtain ⟨_, _⟩ := zne NB744_739
     obtain ⟨⟨_, _, _, _, _⟩, _, _, _, _, _⟩ := zc5 BK744
     obtain ⟨Ao68, co68, eo68⟩ := Kd.S_slice HO_745004.out
     subst eo68
     go_wp2_with (first | ((with_reducible refine gate_callee (f := 24) rfl ?_); refine zgl 83 Try.func24 #[.agg #[.int .i64 (wrap64 (rd lcu1_ 0)), .int .i64 t746, .string x745002_14, .string x745003_14, .slice Ao68 x745004_14.length co68]] ?_; (with_reducible refine (F4.calls kj14 (wrap64 (rd lcu1_ 0)) t746 x745002_14 x745003_14 _ _ x745004_14 t757 t760 _ ?side1 ?side2 A52.out).mono ?_); (case side1 => exact zC (Kd.S_reads' HO_745004.out).2.2); (case side2 => exact (Kd.S_reads' HO_745004.out).2.1); rintro e w69 ⟨v758, rfl, ho0, hb⟩; refine ⟨_, rfl, ?_⟩; replace HO_745004 := zm (Kd.S_below (zs HO_745004) hb); have HO759 := zm (Kd.R_lower ho0 (below_size (zg HB))); replace BK739 := zbb BK739 hb; replace BK744 := zbb BK744 hb; replace HB := zm (below_step (zg HB) hb); (try clear hb ho0); obtain ⟨Ao71, co71, eo71⟩ := Kd.R_slice HO759.out; subst eo71; obtain ⟨i072, hi072, _, hsz72, _⟩ := info_parts info5; obtain ⟨hcut72, hA72, hC72⟩ := print_take_of (P := Try.prog) (Value.int .u8) 0 26 5 .i64 Try.underlying26 hi072 hsz72 A0 c0 l0 (t757.length : Int) (of_decide_eq_true zas) (of_decide_eq_true zas) HC0.out; have HR761 := zm (Kd.C_of_reads (h1 := fun _ => rfl) (hA72 _ (Kd.reads_of_C HR0.out))); have HC761 := zm hC72; clear hA72 hC72 hi072 hsz72) | (go_at_call 88; refine calls_of_args (args' := #[.slice Ao71 t757.length co71, .slice A0 (l0.take ((t757.length : Int) : Int).toNat).length c0]) (by first | (rw [show (l0.take ((t757.length : Int) : Int).toNat).length = (t757.length : Int).toNat from (by rw [List.length_take]; have h_ : ((t757.length : Int) : Int) ≤ (l0.length : Int) := of_decide_eq_true zas; omega)] <;> rfl) | rfl | (simp only [List.length_take, Int.toNat_natCast]; done)) ?_; (with_reducible refine (F47.calls _ _ t757 _ _ (l0.take ((t757.length : Int) : Int).toNat) true _ ?side1 ?side2 ?side3 ?side4 A64.out).mono ?_); (case side1 => exact zC (Kd.R_reads' HO759.out).2.2); (case side2 => exact (Kd.R_reads' HO759.out).2.1); (case side3 => exact zC (Kd.C_below HR761.out HB.out)); (case side4 => exact HC761.out); rintro e w' ⟨rfl, ⟨nd, rfl⟩⟩; (try (rw [drewN_self w69]; generalize hq_ : World.drewN w69 _ = w69; have n0_ : Aside0 (Kd.R (Kd.int .u8) 5 w69 w.heap.size (fun _ => True) (.slice Ao71 t757.length co71) t757) := ⟨by rw [← hq_]; exact (zr HO759)⟩; have n1_ : Aside0 (Kd.S k66 66 w69 w.heap.size (fun _ => True) (.slice Ao68 x745004_14.length co68) x745004_14) := ⟨by rw [← hq_]; exact (zs HO_745004)⟩; have n2_ : Aside0 (w69.heap[gb739]? = some (.cells #[.int .i64 x740000_14, .int .i64 x740001_14, .string x740002_14, .string x740003_14, .slice none 0 0] 47 (0, 0))) := ⟨by rw [← hq_]; exact (zb BK739)⟩; have n3_ : Aside0 (w69.heap[gb744]? = some (.cells #[.int .i64 (wrap64 (rd lcu1_ 0)), .int .i64 t746, .string x745002_14, .string x745003_14, .slice Ao68 x745004_14.length co68] 47 (0, 0))) := ⟨by rw [← hq_]; exact (zb BK744)⟩; have n4_ : Aside0 (Below w.heap.size w w69) := ⟨by rw [← hq_]; exact (zg HB)⟩; clear HO759 HO_745004 BK739 BK744 HB hq_; have HO759 := n0_; have HO_745004 := n1_; have BK739 := n2_; have BK744 := n3_; have HB := n4_; clear n0_ n1_ n2_ n3_ n4_)); obtain ⟨⟨_, _, _, _, _⟩, _, _, _, _, _⟩ := zc5 BK744; obtain ⟨⟨_, _, _, _, _⟩, _, _, _, _, _⟩ := zc5 BK739))
     refine bodyPost_ret (results_ct rfl _ _ gb739 47 #[.int .i64 (wrap64 (rd lcu1_ 0)), .int .i64 t746, .string x745002_14, .string x745003_14, .slice Ao68 x745004_14.length co68] (0, 0) _ rfl (zp BK739) Try.underlying47 rfl (by kernel_rfl)) rfl ?_
     exact ⟨_, zre, zxS (Kd.S_mono (zfS gb739 4 (zfS gb739 3 (zfS gb739 2 (zfS gb739 1 (zfS gb739 0 (Kd.S_types HO_745004.out BK739.out (by decide)) (.int .i64 (wrap64 (rd lcu1_ 0)))) (.int .i64 t746)) (.string x745002_14)) (.string x745003_14)) (.slice Ao68 x745004_14.length co68)) (fun _ hk => trivial)), zg HB⟩
/-! ### F21: function 28 -/
def F21.l0 : Nat → List Int → List (S47) → Int → Option ((List (S47)) × Int × Int)
 | 0, _, _, _ => none
 | k + 1, x0, x5, x6 => if 0 ≤ x6 then (if x6 ≤ (x0.length : Int) then ((F11.f k (x0.drop (x6 : Int).toNat)).bind fun bt764 => (if bt764.2.2.2.2.2 = 0 then (some (x5, x6, 0)) else (if bt764.2.1 = (wrap64 ((x5.length : Int) + 1)) then (if x5.length < 1954687338268 then (F21.l0 k x0 (x5 ++ [(⟨bt764.1, bt764.2.1, bt764.2.2.1, (⟨bt764.2.2.2.1, bt764.2.2.2.2.1⟩ : S31)⟩ : S47)]) (wrap64 (x6 + bt764.2.2.2.2.2))) else (none)) else (some (x5, x6, 0))))) else (none)) else (none)
def F21.f (k : Nat) (l0 : List Int) : Option ((List (S47)) × Int × Int) := if (l0.length : Int) > 1048576 then (some (([] : List (S47)), 0, 2)) else (F21.l0 k l0 ([] : List (S47)) 0)
theorem F21.mono_l : ∀ k, (∀ y0 y1 y2, LeO (F21.l0 k y0 y1 y2) (F21.l0 (k + 1) y0 y1 y2))
 | 0 => fun _ _ _ r h => by simp [F21.l0] at h
 | k + 1 => by
  have ih0 := F21.mono_l k
  ·intro y0 y1 y2
   unfold F21.l0
   repeat' with_reducible first | exact ih0 _ _ _ | exact F11.mono _ _ | exact LeO.refl _ | exact LeO.none _ | refine LeO.ite ?_ ?_ | refine LeO.bind ?_ (fun _ => ?_)
theorem F21.mono : ∀ a0 k, LeO (F21.f k a0) (F21.f (k + 1) a0) := by
 intro a0 k
 have ih0 := F21.mono_l k
 unfold F21.f
 repeat' with_reducible first | exact ih0 _ _ _ | exact F11.mono _ _ | exact LeO.refl _ | exact LeO.none _ | refine LeO.ite ?_ ?_ | refine LeO.bind ?_ (fun _ => ?_)
set_option maxHeartbeats 8000000 in
set_option maxRecDepth 100000 in
theorem F21.calls (k : Nat) (A0 : Option Addr) (c0 : Nat) (l0 : List Int) (r1 : List (S47)) (r2 : Int) (r3 : Int) (w : World) (hr0 : Kd.C (Kd.int .u8) w A0 l0.length l0) (hc0 : l0.length ≤ c0) (h : F21.f k l0 = some (r1, r2, r3)) :
 Calls Try.prog 28 #[.slice A0 l0.length c0] w fun e w' => ∃ v0_ : Value, e = .returned (.tuple #[v0_, .int .i64 r2, .int .i64 r3]) ∧ Kd.S k47 47 w' w.heap.size (fun _ => True) v0_ r1 ∧ Below w.heap.size w w' := by
 have hu47 := Try.underlying47
 have HR0 := zm hr0
 have HC0 := zm hc0
 clear hr0 hc0
 have HB := zm (Below.refl w.heap.size w)
 have H := h
 unfold F21.f at H
 clear h
 by_cases c2 : (l0.length : Int) > 1048576
 ·rw [if_pos c2] at H
  have c2b0 := decide_eq_true c2
  have c2b1 : decide (1048576 < l0.length) = true := decide_eq_true (by omega)
  clear c2
  simp only [Option.some.injEq, Prod.mk.injEq] at H
  obtain ⟨rfl, rfl, rfl⟩ := H
  go_enter Try.func28, Try.ntmps28
  go_wp2
  go_ret3
  exact ⟨_, zre, by first | exact Kd.S_nil _ _ _ _ _ | exact Kd.N_nil _ _ _ _ _ | exact Kd.V_nil _ _ _ _ _ | exact Kd.Q_nil _ _ _ _ _ | exact Kd.R_nil _ _ _ _ _, zh HB⟩
 rw [if_neg c2] at H
 have c2b0 := decide_eq_false c2
 have c2b1 : decide (1048576 < l0.length) = false := decide_eq_false (by omega)
 clear c2
 have H' := zm H
 clear H
 go_enter Try.func28, Try.ntmps28
 go_wp2
 go_loopg [5, 6] k (fun kq v5 v6 w' => ∃ (x5_1 : List (S47)) (x6_1 : Int), v6 = .int .i64 x6_1 ∧ Aside0 (F21.l0 kq l0 x5_1 x6_1 = some (r1, r2, r3)) ∧ Aside0 (kq ≤ k) ∧ Aside0 (Kd.S k47 47 w' w.heap.size (fun _ => True) v5 x5_1) ∧ Aside0 (Below w.heap.size w w'))
 case atStart => exact ⟨(([] : List (S47))), (0), zrs, H', ⟨Nat.le_refl _⟩, ⟨by first | exact Kd.S_nil _ _ _ _ _ | exact Kd.N_nil _ _ _ _ _ | exact Kd.V_nil _ _ _ _ _ | exact Kd.Q_nil _ _ _ _ _ | exact Kd.R_nil _ _ _ _ _⟩, ⟨zh HB⟩⟩
 case round =>
  clear H'
  try clear c2
  try clear c2b0
  try clear c2b1
  obtain ⟨x5_1, x6_1, rfl, HA, HK1, HO_5, HB⟩ := hrel
  cases gk with
  | zero => exact absurd HA.out (by simp [F21.l0])
  | succ k1 =>
   have H := HA.out
   clear HA
   simp only [F21.l0] at H
   by_cases c3 : 0 ≤ x6_1
   rotate_left
   ·rw [if_neg c3] at H
    exact absurd H (by simp)

   rw [if_pos c3] at H
   have c3b0 := eq_true c3
   have c3b1 := decide_eq_true c3
   clear c3
   replace H := zif H
   obtain ⟨c4, H⟩ := H
   have c4b0 := eq_true c4
   have c4b1 := decide_eq_true c4
   clear c4
   replace H := zbi H
   obtain ⟨⟨t764, t765, t766, t767, t768, t771⟩, A5, H⟩ := H
   try dsimp only at H
   by_cases c6 : t771 = 0
   ·rw [if_pos c6] at H
    have c6b0 := z1 c6
    have c6b1 := z3 c6
    clear c6
    simp only [Option.some.injEq, Prod.mk.injEq] at H
    obtain ⟨rfl, rfl, rfl⟩ := H
    obtain ⟨i07, hi07, _, hsz7, _⟩ := info_parts info5
    obtain ⟨A7, hcut7, hA7, hC7⟩ := print_drop_of (P := Try.prog) (Value.int .u8) 0 26 5 .i64 Try.underlying26 hi07 hsz7 A0 c0 l0 x6_1 (of_decide_eq_true zas) (of_decide_eq_true zas) HC0.out
    have HR763 := zm (Kd.C_of_reads (h1 := fun _ => rfl) (hA7 _ (Kd.reads_of_C HR0.out)))
    have HC763 := zm hC7
    clear hA7 hC7 hi07 hsz7
    go_wp2_with (first | ((with_reducible refine gate_callee (f := 58) rfl ?_); refine goesL_ (some 16) rfl rfl Try.func58 (by kernel_rfl) rfl #[.slice A7 (l0.drop (x6_1 : Int).toNat).length (c0 - x6_1.toNat)] rfl (by (try simp only [List.map_toArray, List.map_cons, List.map_nil]); first | done | (rw [show (l0.drop (x6_1 : Int).toNat).length = (l0.length - x6_1.toNat) from List.length_drop] <;> rfl) | rfl | (simp only [List.length_drop, List.length_take]; rfl)) ?_; (with_reducible refine (F11.calls k1 _ _ (l0.drop (x6_1 : Int).toNat) t764 t765 t766 t767 t768 t771 _ ?side1 ?side2 A5.out).mono ?_); (case side1 => exact zC (Kd.C_below HR763.out HB.out)); (case side2 => exact HC763.out); rintro e w8 ⟨v769, rfl, ho0, hb⟩; refine ⟨_, rfl, ?_⟩; obtain ⟨nb9, hnb_⟩ := Kd.pivot_ hb; have HNB9 := zm hnb_; clear hnb_; replace HO_5 := zm (Kd.S_elderN (zs HO_5) (Kd.S_base ho0) hb HNB9.out); have HO770 := zm (Kd.S_lower (Kd.S_geN ho0 HNB9.out) (below_size (zh HB))); replace HB := zm (below_step (zh HB) hb); (try clear hb ho0)) | ((with_reducible refine gate_dst (N := 7) rfl ?_); (try (refine gate_guard (by rfl) ?_; dsimp only)); refine box_event (by rfl) (N := 7) (by rfl) (cs := #[.int .i64 0, .int .i64 0, .string (⟨#[]⟩ : ByteArray), .string (⟨#[]⟩ : ByteArray), .slice none 0 0]) (t := 47) zgs ?_; intro gb772 hg w10 hbox hb; replace HO_5 := zm (Kd.S_below (Kd.S_elderB (zs HO_5) gb772 (Nat.le_of_eq hg.symm)) hb); replace HO770 := zm (Kd.S_below (zs HO770) hb); have BK772 := zm (hbox); have GW772 := zge hg (below_size (zh HB)); have GE772 := zge hg (below_size (zh HB)); replace HB := zm (below_step (zh HB) hb); clear hb hbox hg; obtain ⟨⟨_, _, _, _, _⟩, _, _, _, _, _⟩ := zc5 BK772; obtain ⟨Ao12, co12, eo12⟩ := Kd.S_slice HO770.out; subst eo12))
    go_ret3
    exact ⟨_, zre, zxS (Kd.S_mono (zfS gb772 4 (zfS gb772 3 (zfS gb772 2 (zfS gb772 1 (zfS gb772 0 (Kd.S_mono HO_5.out (fun k_ hk => (⟨hk, hk.2⟩ : _ ∧ k_ ≠ gb772))) (.int .i64 t764)) (.int .i64 t765)) (.string t766)) (.string t767)) (.slice Ao12 t768.length co12)) (fun _ hk => trivial)), zg HB⟩
   rw [if_neg c6] at H
   have c6b0 := z2 c6
   have c6b1 := z4 c6
   by_cases c13 : t765 = (wrap64 ((x5_1.length : Int) + 1))
   rotate_left
   ·rw [if_neg c13] at H
    have c13b0 := z2 c13
    have c13b1 := z4 c13
    simp only [Option.some.injEq, Prod.mk.injEq] at H
    obtain ⟨rfl, rfl, rfl⟩ := H
    obtain ⟨i025, hi025, _, hsz25, _⟩ := info_parts info5
    obtain ⟨A25, hcut25, hA25, hC25⟩ := print_drop_of (P := Try.prog) (Value.int .u8) 0 26 5 .i64 Try.underlying26 hi025 hsz25 A0 c0 l0 x6_1 (of_decide_eq_true zas) (of_decide_eq_true zas) HC0.out
    have HR763 := zm (Kd.C_of_reads (h1 := fun _ => rfl) (hA25 _ (Kd.reads_of_C HR0.out)))
    have HC763 := zm hC25
    clear hA25 hC25 hi025 hsz25
    go_wp2_with (first | ((with_reducible refine gate_callee (f := 58) rfl ?_); refine goesL_ (some 16) rfl rfl Try.func58 (by kernel_rfl) rfl #[.slice A25 (l0.drop (x6_1 : Int).toNat).length (c0 - x6_1.toNat)] rfl (by (try simp only [List.map_toArray, List.map_cons, List.map_nil]); first | done | (rw [show (l0.drop (x6_1 : Int).toNat).length = (l0.length - x6_1.toNat) from List.length_drop] <;> rfl) | rfl | (simp only [List.length_drop, List.length_take]; rfl)) ?_; (with_reducible refine (F11.calls k1 _ _ (l0.drop (x6_1 : Int).toNat) t764 t765 t766 t767 t768 t771 _ ?side1 ?side2 A5.out).mono ?_); (case side1 => exact zC (Kd.C_below HR763.out HB.out)); (case side2 => exact HC763.out); rintro e w26 ⟨v769, rfl, ho0, hb⟩; refine ⟨_, rfl, ?_⟩; obtain ⟨nb27, hnb_⟩ := Kd.pivot_ hb; have HNB27 := zm hnb_; clear hnb_; replace HO_5 := zm (Kd.S_elderN (zs HO_5) (Kd.S_base ho0) hb HNB27.out); have HO770 := zm (Kd.S_lower (Kd.S_geN ho0 HNB27.out) (below_size (zh HB))); replace HB := zm (below_step (zh HB) hb); (try clear hb ho0)) | ((with_reducible refine gate_dst (N := 7) rfl ?_); (try (refine gate_guard (by rfl) ?_; dsimp only)); refine box_event (by rfl) (N := 7) (by rfl) (cs := #[.int .i64 0, .int .i64 0, .string (⟨#[]⟩ : ByteArray), .string (⟨#[]⟩ : ByteArray), .slice none 0 0]) (t := 47) zgs ?_; intro gb772 hg w28 hbox hb; replace HO_5 := zm (Kd.S_below (Kd.S_elderB (zs HO_5) gb772 (Nat.le_of_eq hg.symm)) hb); replace HO770 := zm (Kd.S_below (zs HO770) hb); have BK772 := zm (hbox); have GW772 := zge hg (below_size (zh HB)); have GE772 := zge hg (below_size (zh HB)); replace HB := zm (below_step (zh HB) hb); clear hb hbox hg; obtain ⟨⟨_, _, _, _, _⟩, _, _, _, _, _⟩ := zc5 BK772; obtain ⟨Ao30, co30, eo30⟩ := Kd.S_slice HO770.out; subst eo30; obtain ⟨Ao31, co31, eo31⟩ := Kd.S_slice HO_5.out; subst eo31))
    go_ret3
    exact ⟨_, zre, zxS (Kd.S_mono (zfS gb772 4 (zfS gb772 3 (zfS gb772 2 (zfS gb772 1 (zfS gb772 0 (Kd.S_mono HO_5.out (fun k_ hk => (⟨hk, hk.2⟩ : _ ∧ k_ ≠ gb772))) (.int .i64 t764)) (.int .i64 t765)) (.string t766)) (.string t767)) (.slice Ao30 t768.length co30)) (fun _ hk => trivial)), zg HB⟩
   rw [if_pos c13] at H
   have c13b0 := z1 c13
   have c13b1 := z3 c13
   clear c13
   replace H := zif H
   obtain ⟨c14, H⟩ := H
   have LMc14 := zm c14
   clear c14
   obtain ⟨y773, hy773⟩ : ∃ y_ : List (S47), y_ = (x5_1 ++ [(⟨t764, t765, t766, (⟨t767, t768⟩ : S31)⟩ : S47)]) := ⟨_, rfl⟩
   replace H : (F21.l0 k1 l0 y773 (wrap64 (x6_1 + t771))) = some (r1, r2, r3) := zby hy773 H
   have Ny773 := zm hy773
   clear hy773
   have H' := zm H
   clear H
   obtain ⟨i015, hi015, _, hsz15, _⟩ := info_parts info5
   obtain ⟨A15, hcut15, hA15, hC15⟩ := print_drop_of (P := Try.prog) (Value.int .u8) 0 26 5 .i64 Try.underlying26 hi015 hsz15 A0 c0 l0 x6_1 (of_decide_eq_true zas) (of_decide_eq_true zas) HC0.out
   have HR763 := zm (Kd.C_of_reads (h1 := fun _ => rfl) (hA15 _ (Kd.reads_of_C HR0.out)))
   have HC763 := zm hC15
   clear hA15 hC15 hi015 hsz15
   go_wp2_with (first | ((with_reducible refine gate_callee (f := 58) rfl ?_); refine goesL_ (some 16) rfl rfl Try.func58 (by kernel_rfl) rfl #[.slice A15 (l0.drop (x6_1 : Int).toNat).length (c0 - x6_1.toNat)] rfl (by (try simp only [List.map_toArray, List.map_cons, List.map_nil]); first | done | (rw [show (l0.drop (x6_1 : Int).toNat).length = (l0.length - x6_1.toNat) from List.length_drop] <;> rfl) | rfl | (simp only [List.length_drop, List.length_take]; rfl)) ?_; (with_reducible refine (F11.calls k1 _ _ (l0.drop (x6_1 : Int).toNat) t764 t765 t766 t767 t768 t771 _ ?side1 ?side2 A5.out).mono ?_); (case side1 => exact zC (Kd.C_below HR763.out HB.out)); (case side2 => exact HC763.out); rintro e w16 ⟨v769, rfl, ho0, hb⟩; refine ⟨_, rfl, ?_⟩; obtain ⟨nb17, hnb_⟩ := Kd.pivot_ hb; have HNB17 := zm hnb_; clear hnb_; replace HO_5 := zm (Kd.S_elderN (zs HO_5) (Kd.S_base ho0) hb HNB17.out); have HO770 := zm (Kd.S_lower (Kd.S_geN ho0 HNB17.out) (below_size (zh HB))); replace HB := zm (below_step (zh HB) hb); (try clear hb ho0)) | ((with_reducible refine gate_dst (N := 7) rfl ?_); (try (refine gate_guard (by rfl) ?_; dsimp only)); refine box_event (by rfl) (N := 7) (by rfl) (cs := #[.int .i64 0, .int .i64 0, .string (⟨#[]⟩ : ByteArray), .string (⟨#[]⟩ : ByteArray), .slice none 0 0]) (t := 47) zgs ?_; intro gb772 hg w18 hbox hb; replace HO_5 := zm (Kd.S_below (Kd.S_elderB (zs HO_5) gb772 (Nat.le_of_eq hg.symm)) hb); replace HO770 := zm (Kd.S_below (zs HO770) hb); have BK772 := zm (hbox); have GW772 := zge hg (below_size (zh HB)); have GE772 := zge hg (below_size (zh HB)); replace HB := zm (below_step (zh HB) hb); clear hb hbox hg; obtain ⟨⟨hcz19_0, hcz19_1, hcz19_2, hcz19_3, hcz19_4⟩, hfz19_0, hfz19_1, hfz19_2, hfz19_3, hfz19_4⟩ := zc5 BK772; obtain ⟨Ao20, co20, eo20⟩ := Kd.S_slice HO770.out; subst eo20) | ((with_reducible refine gate_store (t := 47) (p := 7) rfl ?_); refine store_event (t := 47) (p := 7) (v := ?vo_w21) (w1 := (((((w18.setCell ⟨gb772, 0, none⟩ (.int .i64 t764)).setCell ⟨gb772, 1, none⟩ (.int .i64 t765)).setCell ⟨gb772, 2, none⟩ (.string t766)).setCell ⟨gb772, 3, none⟩ (.string t767)).setCell ⟨gb772, 4, none⟩ (.slice Ao20 t768.length co20))) ?hg ?ho ?hn ?hr ?_; (case ho => rfl); (case hg => rfl); (case hn => rfl); (case hr => first | (go_simp; done) | (go_simp; rfl)); intro w21 hw; have n0_ : Aside0 (Kd.S k47 47 w21 w.heap.size (fun k_ => some k_ ≠ (.slice Ao20 t768.length co20 : Value).ownBlock ∧ k_ < nb17 ∧ k_ ≠ gb772) u5 x5_1) := ⟨(by rw [hw]; exact (by (with_reducible repeat (first | apply Kd.S_alloc | apply Kd.S_drewN | apply Kd.S_drew)); exact Kd.S_mono (zfS gb772 4 (zfS gb772 3 (zfS gb772 2 (zfS gb772 1 (zfS gb772 0 (Kd.S_mono HO_5.out (fun k_ hk => (⟨hk, hk.2⟩ : _ ∧ k_ ≠ gb772))) (.int .i64 t764)) (.int .i64 t765)) (.string t766)) (.string t767)) (.slice Ao20 t768.length co20)) (fun _ hk => ⟨hk.1.1.1.2, ⟨hk.1.1.2, hk.1.2⟩⟩)))⟩; have n1_ : Aside0 (Kd.S k66 66 w21 w.heap.size (fun k_ => nb17 ≤ k_) (.slice Ao20 t768.length co20) t768) := ⟨(by rw [hw]; exact (by (with_reducible repeat (first | apply Kd.S_alloc | apply Kd.S_drewN | apply Kd.S_drew)); exact Kd.S_mono (zfS gb772 4 (zfS gb772 3 (zfS gb772 2 (zfS gb772 1 (zfS gb772 0 (Kd.S_types HO770.out BK772.out (by decide)) (.int .i64 t764)) (.int .i64 t765)) (.string t766)) (.string t767)) (.slice Ao20 t768.length co20)) (fun _ hk => hk.1.2)))⟩; have n2_ : Aside0 (w21.heap[gb772]? = some (.cells #[.int .i64 t764, .int .i64 t765, .string t766, .string t767, .slice Ao20 t768.length co20] 47 (0, 0))) := ⟨(by rw [hw]; exact (zp BK772))⟩; have n3_ : Aside0 (Below w.heap.size w w21) := ⟨(by rw [hw]; exact (zg HB))⟩; clear hw; clear HO_5; clear HO770; clear BK772; clear HB; have HO_5 := n0_; have HO770 := n1_; have BK772 := n2_; have HB := n3_; clear n0_ n1_ n2_ n3_; obtain ⟨⟨_, _, _, _, _⟩, _, _, _, _, _⟩ := zc5 BK772; obtain ⟨Ao23, co23, eo23⟩ := Kd.S_slice HO_5.out; subst eo23) | ((with_reducible refine gate_builtin (b := .append) (xs := #[.tmp 31, .tmp 33]) rfl ?_); (try (refine gate_guard (by rfl) ?_; dsimp only)); at_builtin; refine Kd.S_append k47 (w0 := w) w.heap.size rfl (.tmp 31) (.tmp 33) 54 47 (.agg #[(.int .i64 0), (.int .i64 0), (.string ⟨#[]⟩), (.string ⟨#[]⟩), (.slice none 0 0)]) 72 rfl Try.underlying54 info47 rfl (by decide) (by omega) (.slice Ao23 x5_1.length co23) x5_1 (⟨t764, t765, t766, (⟨t767, t768⟩ : S31)⟩ : S47) [.int .i64 t764, .int .i64 t765, .string t766, .string t767, .slice Ao20 t768.length co20] (fun k_ => k_ ≠ gb772) (fun k_ => (nb17 ≤ k_ ∧ ((fun k_ => k_ ≠ gb772)) k_) ∧ some k_ ≠ (.slice Ao23 x5_1.length co23 : Value).ownBlock) rfl rfl ?aP (fun k_ hk_ => ⟨hk_.1.2, hk_.2⟩) ?aF ?aO ?aB ?aS ?aL ?_; (case aP => exact k47_mkM _ _ _ (⟨t764, t765, t766, (⟨t767, t768⟩ : S31)⟩ : S47) (Kd.S_mono (ok' := (fun k_ => (nb17 ≤ k_ ∧ ((fun k_ => k_ ≠ gb772)) k_) ∧ some k_ ≠ (.slice Ao23 x5_1.length co23 : Value).ownBlock)) (Kd.S_types (Kd.S_apart' (HO770.out) (Kd.S_typed HO_5.out) (by decide)) BK772.out (by decide)) (fun k_ hk => ⟨⟨hk.1.1, hk.2⟩, hk.1.2⟩))); (case aB => exact (zg HB)); (case aF => exact (fun k_ hk => Kd.freshB (zb BK772) k_ hk)); (case aO => exact (Kd.S_mono (zs HO_5) (fun k_ hk => ⟨hk.2.2, fun e_ => Nat.not_le.2 hk.2.1 e_.1.1⟩))); (case aS => exact (below_size (zg HB))); (case aL => have := LMc14.out; omega); intro v774 w24 ho hb hg hat; rw [← Ny773.out] at ho; replace BK772 := zm (blk_grown (zb BK772) hg (Kd.S_away HO_5.out (fun _ hk => hk.2.2))); replace HB := zm (hb); have HO775 := zm (ho); clear HO_5 HO770; clear ho hb hg hat))
   go_roundg k1
   case measure => have := HK1.out; omega
   case rel => exact ⟨(y773), (wrap64 (x6_1 + t771)), zrs, H', ⟨by have := HK1.out; omega⟩, ⟨Kd.S_mono (zs HO775) (fun _ hk => trivial)⟩, ⟨zg HB⟩⟩
/-! ### F49: function 29 -/
def F49.f (l0 : List Int) (a1 : Int) (a2 : Int) : Option (Int) := if a2 ≤ 1 then (some 0) else (if (l0.length : Int) = 0 then (if a2 = 0 then (none) else (some (Int.tmod (wrap64 (a1 * 7)) a2))) else (if 0 ≤ (Int.tmod a1 (l0.length : Int)) then (if (Int.tmod a1 (l0.length : Int)) < (l0.length : Int) then (if 0 ≤ (Int.tmod (wrap64 (a1 + 1)) (l0.length : Int)) then (if (Int.tmod (wrap64 (a1 + 1)) (l0.length : Int)) < (l0.length : Int) then (if a2 = 0 then (none) else (some (Int.tmod (wrap64 ((wrap64 ((wrap64 ((wrap64 (rd l0 (Int.tmod a1 (l0.length : Int)))) * 31)) + (wrap64 (rd l0 (Int.tmod (wrap64 (a1 + 1)) (l0.length : Int)))))) + (wrap64 (Int.tdiv a1 (l0.length : Int))))) a2))) else (none)) else (none)) else (none)) else (none)))
set_option maxHeartbeats 8000000 in
set_option maxRecDepth 100000 in
theorem F49.calls (A0 : Option Addr) (c0 : Nat) (l0 : List Int) (a1 : Int) (a2 : Int) (r : Int) (w : World) (hr0 : Kd.C (Kd.int .u8) w A0 l0.length l0) (hc0 : l0.length ≤ c0) (h : F49.f l0 a1 a2 = some r) :
 Calls Try.prog 29 #[.slice A0 l0.length c0, .int .i64 a1, .int .i64 a2] w fun e w' => e = .returned (.int .i64 r) ∧ Drawn0 w w' := by
 have HR0 := zm hr0
 have HC0 := zm hc0
 clear hr0 hc0
 have H := h
 unfold F49.f at H
 clear h
 by_cases c4 : a2 ≤ 1
 ·rw [if_pos c4] at H
  have c4b0 := decide_eq_true c4
  clear c4
  obtain rfl := Option.some.inj H
  go_enter Try.func29, Try.ntmps29
  go_wp2
  repeat (go_quiet (fail); try go_wp2)
  go_ret
  exact ⟨zrs, by repeat (first | exact Drawn0.refl _ | apply Drawn0.step)⟩
 rw [if_neg c4] at H
 have c4b0 := decide_eq_false c4
 clear c4
 by_cases c5 : (l0.length : Int) = 0
 ·rw [if_pos c5] at H
  have c5b0 := z1 c5
  have c5b1 := z3 c5
  clear c5
  by_cases c6 : a2 = 0
  ·rw [if_pos c6] at H
   exact absurd H (by simp)
  rw [if_neg c6] at H
  have c6b0 := z2 c6
  have c6b1 := z4 c6
  obtain rfl := Option.some.inj H
  go_enter Try.func29, Try.ntmps29
  go_wp2
  repeat (go_quiet (fail); try go_wp2)
  go_ret
  exact ⟨zrs, by repeat (first | exact Drawn0.refl _ | apply Drawn0.step)⟩
 rw [if_neg c5] at H
 have c5b0 := z2 c5
 have c5b1 := z4 c5
 have c5b2 : ¬ (l0 = []) := fun h_ => c5 (by rw [h_]; rfl)
 obtain ⟨ji7, hji7⟩ : ∃ j_ : Int, (Int.tmod a1 (l0.length : Int)) = j_ := ⟨_, rfl⟩
 replace H : (if 0 ≤ (ji7) then (if (ji7) < (l0.length : Int) then (if 0 ≤ (Int.tmod (wrap64 (a1 + 1)) (l0.length : Int)) then (if (Int.tmod (wrap64 (a1 + 1)) (l0.length : Int)) < (l0.length : Int) then (if a2 = 0 then (none) else (some (Int.tmod (wrap64 ((wrap64 ((wrap64 ((wrap64 (rd l0 (ji7))) * 31)) + (wrap64 (rd l0 (Int.tmod (wrap64 (a1 + 1)) (l0.length : Int)))))) + (wrap64 (Int.tdiv a1 (l0.length : Int))))) a2))) else (none)) else (none)) else (none)) else (none)) = some r := by first | (rw [hji7] at H; exact H) | (simp only [hji7] at H ⊢; exact H)
 by_cases c8 : 0 ≤ (ji7)
 rotate_left
 ·rw [if_neg c8] at H
  exact absurd H (by simp)

 rw [if_pos c8] at H
 have c8b0 := decide_eq_true c8
 clear c8
 replace H := zif H
 obtain ⟨c9, H⟩ := H
 have c9b0 := decide_eq_true c9
 clear c9
 obtain ⟨ji10, hji10⟩ : ∃ j_ : Int, (Int.tmod (wrap64 (a1 + 1)) (l0.length : Int)) = j_ := ⟨_, rfl⟩
 replace H : (if 0 ≤ (ji10) then (if (ji10) < (l0.length : Int) then (if a2 = 0 then (none) else (some (Int.tmod (wrap64 ((wrap64 ((wrap64 ((wrap64 (rd l0 (ji7))) * 31)) + (wrap64 (rd l0 (ji10))))) + (wrap64 (Int.tdiv a1 (l0.length : Int))))) a2))) else (none)) else (none)) = some r := by first | (rw [hji10] at H; exact H) | (simp only [hji10] at H ⊢; exact H)
 replace H := zif H
 obtain ⟨c11, H⟩ := H
 have c11b0 := decide_eq_true c11
 clear c11
 replace H := zif H
 obtain ⟨c12, H⟩ := H
 have c12b0 := decide_eq_true c12
 clear c12
 by_cases c13 : a2 = 0
 ·rw [if_pos c13] at H
  exact absurd H (by simp)
 rw [if_neg c13] at H
 have c13b0 := z2 c13
 have c13b1 := z4 c13
 obtain rfl := Option.some.inj H
 have p776 : 0 ≤ ((ji7) : Int) := of_decide_eq_true zas
 have q776 : (ji7) < (l0.length : Int) := of_decide_eq_true zas
 obtain ⟨ad776, e776, hx776_0⟩ := Kd.at_int HR0.out (ji7) p776 q776
 cases e776
 replace p776 := eq_true p776
 replace q776 := eq_true q776
 have p777 : 0 ≤ ((ji10) : Int) := of_decide_eq_true zas
 have q777 : (ji10) < (l0.length : Int) := of_decide_eq_true zas
 obtain ⟨ad777, e777, hx777_0⟩ := Kd.at_int HR0.out (ji10) p777 q777
 obtain rfl : ad776 = ad777 := (by injection e777)
 replace p777 := eq_true p777
 replace q777 := eq_true q777
 go_enter Try.func29, Try.ntmps29
 go_wp2
 repeat (go_quiet (fail); try go_wp2)
 go_ret
 exact ⟨by first | rfl | (simp; done) | (simp only [← hji7, ← hji10] <;> (first | rfl | simp)) | (simp [*]; done), by repeat (first | exact Drawn0.refl _ | apply Drawn0.step)⟩
end Go.Proofs.Ytnpdmleglcbobaa.XFnLog
