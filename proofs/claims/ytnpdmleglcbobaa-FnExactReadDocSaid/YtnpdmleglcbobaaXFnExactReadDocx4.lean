-- A text of this session: written by its own program (wip/x/xprint.py), which runs the kit's printer with contracts of its own.
import Derived.Test.YtnpdmleglcbobaaXFnExactReadDocx0
import Derived.Test.YtnpdmleglcbobaaXFnExactReadDocx3
namespace Go.Proofs.Ytnpdmleglcbobaa.XFnExactReadDoc
open Go.RowKit Go.Proofs.YtnpdmleglcbobaaW.PrintWords Go.Proofs.YtnpdmleglcbobaaW.PrintLast Go.Proofs.YtnpdmleglcbobaaW.PrintMore
attribute [local go_sem] max2_int min2_int max_two min_two max_three min_three max_four min_four   -- for this text's walks alone
set_option linter.unusedVariables false
set_option linter.unusedSimpArgs false

/-! ### spec_l06Reader_text: function 69 -/
def spec_l06Reader_text.f (k : Nat) (s0_0 : List Int) (s0_1 : Int) (s0_2 : Bool) : Option (ByteArray × Int × Bool) := (spec_l06Reader_num.f k s0_0 s0_1 s0_2).bind fun bt => (if 0 ≤ bt.1 then (if bt.1 ≤ 4611686018427387904 then (if 0 ≤ bt.2.1 then (if bt.2.1 ≤ 9000000000 then (if s0_0.length ≤ 9000000000 then (if bt.2.2 = true then (some ((⟨#[]⟩ : ByteArray), bt.2.1, true)) else (if bt.1 > (s0_0.length : Int) - bt.2.1 then (some ((⟨#[]⟩ : ByteArray), bt.2.1, true)) else (if bt.1 > 65536 then (some ((⟨#[]⟩ : ByteArray), bt.2.1, true)) else (some (strOfNums ((s0_0.take (bt.2.1 + bt.1).toNat).drop bt.2.1.toNat), bt.2.1 + bt.1, false))))) else (none)) else (none)) else (none)) else (none)) else (none))
theorem spec_l06Reader_text.mono : ∀ a0 a1 a2 k, LeO (spec_l06Reader_text.f k a0 a1 a2) (spec_l06Reader_text.f (k + 1) a0 a1 a2) := by
  intro a0 a1 a2 k
  unfold spec_l06Reader_text.f
  exact LeO.bind (spec_l06Reader_num.mono _ _ _ _) (fun _ => LeO.refl _)
set_option maxHeartbeats 8000000 in
set_option maxRecDepth 100000 in
theorem spec_l06Reader_text.calls (k : Nat) (g : Nat) (s0_0 : List Int) (s0_1 : Int) (s0_2 : Bool) (r1 : ByteArray) (r2 : Int) (r3 : Bool) (w0 w : World) (hI : IsS74 w0 w g s0_0 s0_1 s0_2) (hB : Below w0.heap.size w0 w) (h : spec_l06Reader_text.f k s0_0 s0_1 s0_2 = some (r1, r2, r3)) :
    Calls Try.prog 69 #[.pointer (some ⟨g, 0, none⟩)] w fun e w' => e = .returned (.string r1) ∧ IsS74 w0 w' g s0_0 r2 r3 ∧ Below w0.heap.size w0 w' ∧ KeepBut w w' g none := by
  unfold spec_l06Reader_text.f at h
  obtain ⟨⟨n1, at1, bad1⟩, hnum, h⟩ := Option.bind_eq_some_iff.1 h
  simp only at h
  by_cases g1 : 0 ≤ n1
  case neg => rw [if_neg g1] at h; cases h
  rw [if_pos g1] at h
  by_cases g2 : n1 ≤ 4611686018427387904
  case neg => rw [if_neg g2] at h; cases h
  rw [if_pos g2] at h
  by_cases g3 : 0 ≤ at1
  case neg => rw [if_neg g3] at h; cases h
  rw [if_pos g3] at h
  by_cases g4 : at1 ≤ 9000000000
  case neg => rw [if_neg g4] at h; cases h
  rw [if_pos g4] at h
  by_cases g5 : s0_0.length ≤ 9000000000
  case neg => rw [if_neg g5] at h; cases h
  rw [if_pos g5] at h
  have hc := fun W hi hb => spec_l06Reader_num.calls k g s0_0 s0_1 s0_2 n1 at1 bad1 w0 W hi hb hnum
  have HI := Aside0.mk hI
  have HB := Aside0.mk hB
  clear hnum hI hB
  have bad : Calls Try.prog 96 #[.pointer (some ⟨g, 0, none⟩)] w (fun e w' => e = .returned (.int .i64 n1) ∧ IsS74 w0 w' g s0_0 at1 bad1 ∧ Below w0.heap.size w0 w' ∧ KeepBut w w' g none) := hc w HI.out HB.out
  clear hc
  by_cases cb : bad1 = true
  · subst cb
    rw [if_pos rfl] at h
    simp only [Option.some.injEq, Prod.mk.injEq] at h
    obtain ⟨rfl, rfl, rfl⟩ := h
    go_enter Try.func69, Try.ntmps69
    go_wp2_with (go_at_call 96; refine bad.mono ?_; rintro e w1 ⟨rfl, hi1, hb1, hk1⟩; have HI1 := Aside0.mk hi1; have HB1 := Aside0.mk hb1; have HK1 := Aside0.mk hk1; obtain ⟨A1, c1, HG1, hg1, HS1⟩ := hi1; have hx0 := cellS74_0 HG1; have hx1 := cellS74_1 HG1; have hx2 := cellS74_2 HG1; have hf1 := blk_frozen HG1 1; have hf2 := blk_frozen HG1 2; clear HG1 hg1 hb1 hk1)
    repeat (go_quiet (fail); try go_wp2)
    go_ret
    exact ⟨rfl, by repeat (first | (with_reducible first | exact HI1.out | apply IsS74.alloc | apply IsS74.drewN | apply IsS74.drew | apply IsS74.set_1 | apply IsS74.set_2) | exact HI1.out), by repeat (first | (with_reducible first | exact HB1.out | apply below_alloc | apply pw_below_drewN | apply below_drew1 | refine below_set ?_ (IsS74.ge HI1.out)) | exact HB1.out), by repeat (first | (with_reducible first | exact HK1.out | apply KeepBut.set_ | apply keep_drewN | apply keep_drew | apply keep_alloc) | exact HK1.out)⟩
  · have cb' := Bool.eq_false_iff.2 cb
    subst cb'
    rw [if_neg Bool.false_ne_true] at h
    clear cb
    have q1 : wrap64 (at1 + n1) = at1 + n1 := by unfold wrap64; omega
    have q2 : IntKind.i64.wrap (at1 + n1) = at1 + n1 := (i64_w _).trans q1
    have q3 : wrap64 (at1 + n1 - n1) = at1 := by unfold wrap64; omega
    have q4 : IntKind.i64.wrap (at1 + n1 - n1) = at1 := (i64_w _).trans q3
    have q5 : wrap64 ((s0_0.length : Int) - at1) = (s0_0.length : Int) - at1 := by unfold wrap64; omega
    have q6 : IntKind.i64.wrap ((s0_0.length : Int) - at1) = (s0_0.length : Int) - at1 := (i64_w _).trans q5
    by_cases cl : n1 > (s0_0.length : Int) - at1
    · rw [if_pos cl] at h
      have d1 : decide ((s0_0.length : Int) - at1 < n1) = true := decide_eq_true cl
      clear cl
      simp only [Option.some.injEq, Prod.mk.injEq] at h
      obtain ⟨rfl, rfl, rfl⟩ := h
      clear g1 g2 g3 g4 g5
      go_enter Try.func69, Try.ntmps69
      go_wp2_with (go_at_call 96; refine bad.mono ?_; rintro e w1 ⟨rfl, hi1, hb1, hk1⟩; have HI1 := Aside0.mk hi1; have HB1 := Aside0.mk hb1; have HK1 := Aside0.mk hk1; obtain ⟨A1, c1, HG1, hg1, HS1⟩ := hi1; have hx0 := cellS74_0 HG1; have hx1 := cellS74_1 HG1; have hx2 := cellS74_2 HG1; have hf1 := blk_frozen HG1 1; have hf2 := blk_frozen HG1 2; clear HG1 hg1 hb1 hk1)
      repeat (go_quiet (fail); try go_wp2)
      go_ret
      exact ⟨rfl, by repeat (first | (with_reducible first | exact HI1.out | apply IsS74.alloc | apply IsS74.drewN | apply IsS74.drew | apply IsS74.set_1 | apply IsS74.set_2) | exact HI1.out), by repeat (first | (with_reducible first | exact HB1.out | apply below_alloc | apply pw_below_drewN | apply below_drew1 | refine below_set ?_ (IsS74.ge HI1.out)) | exact HB1.out), by repeat (first | (with_reducible first | exact HK1.out | apply KeepBut.set_ | apply keep_drewN | apply keep_drew | apply keep_alloc) | exact HK1.out)⟩
    · rw [if_neg cl] at h
      have d1 : decide ((s0_0.length : Int) - at1 < n1) = false := decide_eq_false cl
      by_cases cm : n1 > 65536
      · rw [if_pos cm] at h
        have d2 : decide (65536 < n1) = true := decide_eq_true cm
        clear cl cm
        simp only [Option.some.injEq, Prod.mk.injEq] at h
        obtain ⟨rfl, rfl, rfl⟩ := h
        clear g1 g2 g3 g4 g5
        go_enter Try.func69, Try.ntmps69
        go_wp2_with (go_at_call 96; refine bad.mono ?_; rintro e w1 ⟨rfl, hi1, hb1, hk1⟩; have HI1 := Aside0.mk hi1; have HB1 := Aside0.mk hb1; have HK1 := Aside0.mk hk1; obtain ⟨A1, c1, HG1, hg1, HS1⟩ := hi1; have hx0 := cellS74_0 HG1; have hx1 := cellS74_1 HG1; have hx2 := cellS74_2 HG1; have hf1 := blk_frozen HG1 1; have hf2 := blk_frozen HG1 2; clear HG1 hg1 hb1 hk1)
        repeat (go_quiet (fail); try go_wp2)
        go_ret
        exact ⟨rfl, by repeat (first | (with_reducible first | exact HI1.out | apply IsS74.alloc | apply IsS74.drewN | apply IsS74.drew | apply IsS74.set_1 | apply IsS74.set_2) | exact HI1.out), by repeat (first | (with_reducible first | exact HB1.out | apply below_alloc | apply pw_below_drewN | apply below_drew1 | refine below_set ?_ (IsS74.ge HI1.out)) | exact HB1.out), by repeat (first | (with_reducible first | exact HK1.out | apply KeepBut.set_ | apply keep_drewN | apply keep_drew | apply keep_alloc) | exact HK1.out)⟩
      · rw [if_neg cm] at h
        have d2 : decide (65536 < n1) = false := decide_eq_false cm
        simp only [Option.some.injEq, Prod.mk.injEq] at h
        obtain ⟨rfl, rfl, rfl⟩ := h
        have HG := Aside0.mk (show 0 ≤ at1 ∧ at1 ≤ at1 + n1 ∧ at1 + n1 ≤ (s0_0.length : Int) from ⟨g3, by omega, by omega⟩)
        have HG0 := Aside0.mk (And.intro g3 g4)
        clear g1 g2 g3 g4 g5
        go_enter Try.func69, Try.ntmps69
        go_upto_region 6 with (first | (go_at_call 96; refine bad.mono ?_; rintro e w1 ⟨rfl, hi1, hb1, hk1⟩; have HI1 := Aside0.mk hi1; have HB1 := Aside0.mk hb1; have HK1 := Aside0.mk hk1; obtain ⟨A1, c1, HG1, hg1, HS1⟩ := hi1; have hx0 := cellS74_0 HG1; have hx1 := cellS74_1 HG1; have hx2 := cellS74_2 HG1; have hf1 := blk_frozen HG1 1; have hf2 := blk_frozen HG1 2; clear HG1 hg1 hb1 hk1) | (go_quiet (fail)))
        have HI2 : Aside0 (IsS74 w0 ((w1.drewN nq).setCell ⟨g, 1, none⟩ (.int .i64 (at1 + n1))) g s0_0 (at1 + n1) false) := ⟨by repeat (first | (with_reducible first | exact HI1.out | apply IsS74.alloc | apply IsS74.drewN | apply IsS74.drew | apply IsS74.set_1 | apply IsS74.set_2) | exact HI1.out)⟩
        have HB2 : Aside0 (Below w0.heap.size w0 ((w1.drewN nq).setCell ⟨g, 1, none⟩ (.int .i64 (at1 + n1)))) := ⟨by repeat (first | (with_reducible first | exact HB1.out | apply below_alloc | apply pw_below_drewN | apply below_drew1 | refine below_set ?_ (IsS74.ge HI1.out)) | exact HB1.out)⟩
        have HK2 : Aside0 (KeepBut w ((w1.drewN nq).setCell ⟨g, 1, none⟩ (.int .i64 (at1 + n1))) g none) := ⟨by repeat (first | (with_reducible first | exact HK1.out | apply KeepBut.set_ | apply keep_drewN | apply keep_drew | apply keep_alloc) | exact HK1.out)⟩
        clear hx0 hx1 hx2 hf1 hf2 HS1
        generalize (w1.drewN nq).setCell ⟨g, 1, none⟩ (.int .i64 (at1 + n1)) = w2 at HI2 HB2 HK2 ⊢
        clear HI1 HB1 HK1
        obtain ⟨A2, c2, HG2, hg2, HS2⟩ := HI2.out
        have hx0 := cellS74_0 HG2
        have hx1 := cellS74_1 HG2
        clear HG2 hg2
        obtain ⟨A3, hcut, hrd, hle⟩ := print_mid_of (P := Try.prog) (Value.int .u8) (0 : Int) 26 5 .i64 .i64 Try.underlying26 rfl rfl A2 c2 s0_0 at1 (at1 + n1) HG.out.1 HG.out.2.1 HG.out.2.2 HS2.2
        have hcv := fun m => string_of_reads (c := c2 - at1.toNat) Try.underlying26 Try.underlying5 Try.underlying9 (hrd _ (Kd.reads_of_C (enc := Value.int .u8) (d := (0 : Int)) (h1 := fun _ => rfl) (Kd.C_drewN (Kd.C_below HS2.1 HB2.out) m)))
        clear HS2 hrd hle HG h
        generalize hxs : (s0_0.take (at1 + n1).toNat).drop at1.toNat = xs at hcut hcv ⊢
        have q7 : wrap64 at1 = at1 := by have := HG0.out; unfold wrap64; omega
        have q8 : IntKind.i64.wrap at1 = at1 := (i64_w _).trans q7
        clear HG0
        go_quiet (fail)
        try go_wp2
        go_ret
        exact ⟨by subst hxs; rfl, by repeat (first | (with_reducible first | exact HI2.out | apply IsS74.alloc | apply IsS74.drewN | apply IsS74.drew | apply IsS74.set_1 | apply IsS74.set_2) | exact HI2.out), by repeat (first | (with_reducible first | exact HB2.out | apply below_alloc | apply pw_below_drewN | apply below_drew1 | refine below_set ?_ (IsS74.ge HI2.out)) | exact HB2.out), by repeat (first | (with_reducible first | exact HK2.out | apply KeepBut.set_ | apply keep_drewN | apply keep_drew | apply keep_alloc) | exact HK2.out)⟩

/-! ### spec_l06Reader_count: function 70 -/
def spec_l06Reader_count.f (k : Nat) (s0_0 : List Int) (s0_1 : Int) (s0_2 : Bool) : Option (Int × Int × Bool) := (spec_l06Reader_num.f k s0_0 s0_1 s0_2).bind fun bt128 => (if bt128.1 > 4096 then (some (0, bt128.2.1, true)) else (some (bt128.1, bt128.2.1, bt128.2.2)))
theorem spec_l06Reader_count.mono : ∀ a0 a1 a2 k, LeO (spec_l06Reader_count.f k a0 a1 a2) (spec_l06Reader_count.f (k + 1) a0 a1 a2) := by
  intro a0 a1 a2 k
  unfold spec_l06Reader_count.f
  repeat' first
      | (with_reducible exact spec_l06Reader_num.mono _ _ _ _)
      | (with_reducible exact LeO.refl _)
      | (with_reducible exact LeO.none _)
      | (with_reducible refine LeO.ite ?_ ?_)
      | (with_reducible refine LeO.bind ?_ (fun _ => ?_))
      | exact spec_l06Reader_num.mono _ _ _ _
      | exact LeO.none _
      | refine LeO.ite ?_ ?_
      | refine LeO.bind ?_ (fun _ => ?_)
set_option maxHeartbeats 8000000 in
set_option maxRecDepth 100000 in
theorem spec_l06Reader_count.calls (k : Nat) (g : Nat) (s0_0 : List Int) (s0_1 : Int) (s0_2 : Bool) (r1 : Int) (r2 : Int) (r3 : Bool) (w0 w : World) (hI : IsS74 w0 w g s0_0 s0_1 s0_2) (hB : Below w0.heap.size w0 w) (h : spec_l06Reader_count.f k s0_0 s0_1 s0_2 = some (r1, r2, r3)) :
    Calls Try.prog 70 #[.pointer (some ⟨g, 0, none⟩)] w fun e w' => e = .returned (.int .i64 r1) ∧ IsS74 w0 w' g s0_0 r2 r3 ∧ Below w0.heap.size w0 w' ∧ KeepBut w w' g none := by
  have HI0 := Aside0.mk hI
  have HK := Aside0.mk (KeepBut.refl w g none)
  have HL := Aside0.mk hB.size
  clear hI
  have HW0 := Aside0.mk hB.size
  have HB := Aside0.mk hB
  clear hB
  have H : ((spec_l06Reader_num.f k s0_0 s0_1 s0_2).bind fun bt128 => (if bt128.1 > 4096 then (some (0, bt128.2.1, true)) else (some (bt128.1, bt128.2.1, bt128.2.2)))) = some (r1, r2, r3) := h
  clear h
  replace H := Option.bind_eq_some_iff.mp H
  obtain ⟨⟨t128, t129, t130⟩, A20, H⟩ := H
  replace H : (if t128 > 4096 then (some (0, t129, true)) else (some (t128, t129, t130))) = some (r1, r2, r3) := H
  have A2 := Aside0.mk A20
  clear A20
  by_cases c3 : t128 > 4096
  · rw [if_pos c3] at H
    have c3b0 : decide (4096 < t128) = true := decide_eq_true c3
    clear c3
    simp only [Option.some.injEq, Prod.mk.injEq] at H
    obtain ⟨rfl, rfl, rfl⟩ := H
    go_enter Try.func70, Try.ntmps70
    go_wp2_with (first | ((with_reducible refine gate_callee (f := 96) rfl ?_); refine goesL_ (some 5) rfl rfl Try.func96 (by kernel_rfl) rfl #[.pointer (some ⟨g, 0, none⟩)] rfl zar ?_; (with_reducible refine (spec_l06Reader_num.calls k g s0_0 s0_1 s0_2 t128 t129 t130 w0 _ ?side1 ?side2 A2.out).mono ?_); (case side1 => repeat (first | (with_reducible first | exact HI0.out | apply IsS74.alloc | apply IsS74.drewN | apply IsS74.drew | apply IsS74.set_1 | apply IsS74.set_2) | exact HI0.out)); (case side2 => repeat (first | (with_reducible first | exact HB.out | apply below_alloc | apply pw_below_drewN | apply below_drew1 | refine below_set ?_ (IsS74.ge HI0.out)) | exact HB.out)); rintro e w4 ⟨rfl, hi, hb, hk⟩; refine ⟨_, rfl, ?_⟩; have n0_ := Aside0.mk (KeepBut.trans (by repeat (first | (with_reducible first | exact HK.out | apply KeepBut.set_ | apply keep_drewN | apply keep_drew | apply keep_alloc) | exact HK.out)) hk (.inl rfl)); have n1_ := Aside0.mk (hb); have n2_ := Aside0.mk (hi); clear HK; clear HB; clear HI0; have HK := n0_; have HB := n1_; have HI0 := n2_; clear n0_ n1_ n2_; (try clear hb); (try clear hb2); (try clear hk); (try clear hi); obtain ⟨ASz5_0, cSz5_0, HGz5, hgz5, HSz5_0⟩ := HI0.out; have hcz5_0 := cellS74_0 HGz5; have hcz5_1 := cellS74_1 HGz5; have hcz5_2 := cellS74_2 HGz5; have hfz5_1 := blk_frozen HGz5 1; have hfz5_2 := blk_frozen HGz5 2; clear HGz5 hgz5))
    go_ret
    exact ⟨zre, by repeat (first | (with_reducible first | exact HI0.out | apply IsS74.alloc | apply IsS74.drewN | apply IsS74.drew | apply IsS74.set_1 | apply IsS74.set_2) | exact HI0.out), by repeat (first | (with_reducible first | exact HB.out | apply below_alloc | apply pw_below_drewN | apply below_drew1 | refine below_set ?_ (IsS74.ge HI0.out)) | exact HB.out), by repeat (first | (with_reducible first | exact HK.out | apply KeepBut.set_ | apply keep_drewN | apply keep_drew | apply keep_alloc) | exact HK.out)⟩
  · rw [if_neg c3] at H
    have c3b0 : decide (4096 < t128) = false := decide_eq_false c3
    clear c3
    simp only [Option.some.injEq, Prod.mk.injEq] at H
    obtain ⟨rfl, rfl, rfl⟩ := H
    go_enter Try.func70, Try.ntmps70
    go_wp2_with (first | ((with_reducible refine gate_callee (f := 96) rfl ?_); refine goesL_ (some 5) rfl rfl Try.func96 (by kernel_rfl) rfl #[.pointer (some ⟨g, 0, none⟩)] rfl zar ?_; (with_reducible refine (spec_l06Reader_num.calls k g s0_0 s0_1 s0_2 t128 t129 t130 w0 _ ?side1 ?side2 A2.out).mono ?_); (case side1 => repeat (first | (with_reducible first | exact HI0.out | apply IsS74.alloc | apply IsS74.drewN | apply IsS74.drew | apply IsS74.set_1 | apply IsS74.set_2) | exact HI0.out)); (case side2 => repeat (first | (with_reducible first | exact HB.out | apply below_alloc | apply pw_below_drewN | apply below_drew1 | refine below_set ?_ (IsS74.ge HI0.out)) | exact HB.out)); rintro e w6 ⟨rfl, hi, hb, hk⟩; refine ⟨_, rfl, ?_⟩; have n0_ := Aside0.mk (KeepBut.trans (by repeat (first | (with_reducible first | exact HK.out | apply KeepBut.set_ | apply keep_drewN | apply keep_drew | apply keep_alloc) | exact HK.out)) hk (.inl rfl)); have n1_ := Aside0.mk (hb); have n2_ := Aside0.mk (hi); clear HK; clear HB; clear HI0; have HK := n0_; have HB := n1_; have HI0 := n2_; clear n0_ n1_ n2_; (try clear hb); (try clear hb2); (try clear hk); (try clear hi)))
    go_ret
    exact ⟨zre, by repeat (first | (with_reducible first | exact HI0.out | apply IsS74.alloc | apply IsS74.drewN | apply IsS74.drew | apply IsS74.set_1 | apply IsS74.set_2) | exact HI0.out), by repeat (first | (with_reducible first | exact HB.out | apply below_alloc | apply pw_below_drewN | apply below_drew1 | refine below_set ?_ (IsS74.ge HI0.out)) | exact HB.out), by repeat (first | (with_reducible first | exact HK.out | apply KeepBut.set_ | apply keep_drewN | apply keep_drew | apply keep_alloc) | exact HK.out)⟩

/-! ### spec_l06Reader_number: function 71 -/
def spec_l06Reader_number.f (k : Nat) (s0_0 : List Int) (s0_1 : Int) (s0_2 : Bool) : Option (Int × Int × Bool) := (spec_l06Reader_num.f k s0_0 s0_1 s0_2).bind fun bt131 => (if bt131.1 > 2000000000000 then (some (0, bt131.2.1, true)) else (if (Int.tmod bt131.1 2) = 1 then (some (wrap64 (Int.tdiv (wrap64 (-(wrap64 (bt131.1 + 1)))) 2), bt131.2.1, bt131.2.2)) else (some (wrap64 (Int.tdiv bt131.1 2), bt131.2.1, bt131.2.2))))
theorem spec_l06Reader_number.mono : ∀ a0 a1 a2 k, LeO (spec_l06Reader_number.f k a0 a1 a2) (spec_l06Reader_number.f (k + 1) a0 a1 a2) := by
  intro a0 a1 a2 k
  unfold spec_l06Reader_number.f
  repeat' first
      | (with_reducible exact spec_l06Reader_num.mono _ _ _ _)
      | (with_reducible exact LeO.refl _)
      | (with_reducible exact LeO.none _)
      | (with_reducible refine LeO.ite ?_ ?_)
      | (with_reducible refine LeO.bind ?_ (fun _ => ?_))
      | exact spec_l06Reader_num.mono _ _ _ _
      | exact LeO.none _
      | refine LeO.ite ?_ ?_
      | refine LeO.bind ?_ (fun _ => ?_)
set_option maxHeartbeats 8000000 in
set_option maxRecDepth 100000 in
theorem spec_l06Reader_number.calls (k : Nat) (g : Nat) (s0_0 : List Int) (s0_1 : Int) (s0_2 : Bool) (r1 : Int) (r2 : Int) (r3 : Bool) (w0 w : World) (hI : IsS74 w0 w g s0_0 s0_1 s0_2) (hB : Below w0.heap.size w0 w) (h : spec_l06Reader_number.f k s0_0 s0_1 s0_2 = some (r1, r2, r3)) :
    Calls Try.prog 71 #[.pointer (some ⟨g, 0, none⟩)] w fun e w' => e = .returned (.int .i64 r1) ∧ IsS74 w0 w' g s0_0 r2 r3 ∧ Below w0.heap.size w0 w' ∧ KeepBut w w' g none := by
  have HI0 := Aside0.mk hI
  have HK := Aside0.mk (KeepBut.refl w g none)
  have HL := Aside0.mk hB.size
  clear hI
  have HW0 := Aside0.mk hB.size
  have HB := Aside0.mk hB
  clear hB
  have H : ((spec_l06Reader_num.f k s0_0 s0_1 s0_2).bind fun bt131 => (if bt131.1 > 2000000000000 then (some (0, bt131.2.1, true)) else (if (Int.tmod bt131.1 2) = 1 then (some (wrap64 (Int.tdiv (wrap64 (-(wrap64 (bt131.1 + 1)))) 2), bt131.2.1, bt131.2.2)) else (some (wrap64 (Int.tdiv bt131.1 2), bt131.2.1, bt131.2.2))))) = some (r1, r2, r3) := h
  clear h
  replace H := Option.bind_eq_some_iff.mp H
  obtain ⟨⟨t131, t132, t133⟩, A20, H⟩ := H
  replace H : (if t131 > 2000000000000 then (some (0, t132, true)) else (if (Int.tmod t131 2) = 1 then (some (wrap64 (Int.tdiv (wrap64 (-(wrap64 (t131 + 1)))) 2), t132, t133)) else (some (wrap64 (Int.tdiv t131 2), t132, t133)))) = some (r1, r2, r3) := H
  have A2 := Aside0.mk A20
  clear A20
  by_cases c3 : t131 > 2000000000000
  · rw [if_pos c3] at H
    have c3b0 : decide (2000000000000 < t131) = true := decide_eq_true c3
    clear c3
    simp only [Option.some.injEq, Prod.mk.injEq] at H
    obtain ⟨rfl, rfl, rfl⟩ := H
    go_enter Try.func71, Try.ntmps71
    go_wp2_with (first | ((with_reducible refine gate_callee (f := 96) rfl ?_); refine goesL_ (some 5) rfl rfl Try.func96 (by kernel_rfl) rfl #[.pointer (some ⟨g, 0, none⟩)] rfl zar ?_; (with_reducible refine (spec_l06Reader_num.calls k g s0_0 s0_1 s0_2 t131 t132 t133 w0 _ ?side1 ?side2 A2.out).mono ?_); (case side1 => repeat (first | (with_reducible first | exact HI0.out | apply IsS74.alloc | apply IsS74.drewN | apply IsS74.drew | apply IsS74.set_1 | apply IsS74.set_2) | exact HI0.out)); (case side2 => repeat (first | (with_reducible first | exact HB.out | apply below_alloc | apply pw_below_drewN | apply below_drew1 | refine below_set ?_ (IsS74.ge HI0.out)) | exact HB.out)); rintro e w4 ⟨rfl, hi, hb, hk⟩; refine ⟨_, rfl, ?_⟩; have n0_ := Aside0.mk (KeepBut.trans (by repeat (first | (with_reducible first | exact HK.out | apply KeepBut.set_ | apply keep_drewN | apply keep_drew | apply keep_alloc) | exact HK.out)) hk (.inl rfl)); have n1_ := Aside0.mk (hb); have n2_ := Aside0.mk (hi); clear HK; clear HB; clear HI0; have HK := n0_; have HB := n1_; have HI0 := n2_; clear n0_ n1_ n2_; (try clear hb); (try clear hb2); (try clear hk); (try clear hi); obtain ⟨ASz5_0, cSz5_0, HGz5, hgz5, HSz5_0⟩ := HI0.out; have hcz5_0 := cellS74_0 HGz5; have hcz5_1 := cellS74_1 HGz5; have hcz5_2 := cellS74_2 HGz5; have hfz5_1 := blk_frozen HGz5 1; have hfz5_2 := blk_frozen HGz5 2; clear HGz5 hgz5))
    go_ret
    exact ⟨zre, by repeat (first | (with_reducible first | exact HI0.out | apply IsS74.alloc | apply IsS74.drewN | apply IsS74.drew | apply IsS74.set_1 | apply IsS74.set_2) | exact HI0.out), by repeat (first | (with_reducible first | exact HB.out | apply below_alloc | apply pw_below_drewN | apply below_drew1 | refine below_set ?_ (IsS74.ge HI0.out)) | exact HB.out), by repeat (first | (with_reducible first | exact HK.out | apply KeepBut.set_ | apply keep_drewN | apply keep_drew | apply keep_alloc) | exact HK.out)⟩
  · rw [if_neg c3] at H
    have c3b0 : decide (2000000000000 < t131) = false := decide_eq_false c3
    clear c3
    by_cases c6 : (Int.tmod t131 2) = 1
    · rw [if_pos c6] at H
      have c6b0 : ((Int.tmod t131 2) == 1) = true := beq_iff_eq.mpr c6
      have c6b1 : ((Int.tmod t131 2) != 1) = false := bne_eq_false_iff_eq.mpr c6
      clear c6
      simp only [Option.some.injEq, Prod.mk.injEq] at H
      obtain ⟨rfl, rfl, rfl⟩ := H
      go_enter Try.func71, Try.ntmps71
      go_wp2_with (first | ((with_reducible refine gate_callee (f := 96) rfl ?_); refine goesL_ (some 5) rfl rfl Try.func96 (by kernel_rfl) rfl #[.pointer (some ⟨g, 0, none⟩)] rfl zar ?_; (with_reducible refine (spec_l06Reader_num.calls k g s0_0 s0_1 s0_2 t131 t132 t133 w0 _ ?side1 ?side2 A2.out).mono ?_); (case side1 => repeat (first | (with_reducible first | exact HI0.out | apply IsS74.alloc | apply IsS74.drewN | apply IsS74.drew | apply IsS74.set_1 | apply IsS74.set_2) | exact HI0.out)); (case side2 => repeat (first | (with_reducible first | exact HB.out | apply below_alloc | apply pw_below_drewN | apply below_drew1 | refine below_set ?_ (IsS74.ge HI0.out)) | exact HB.out)); rintro e w7 ⟨rfl, hi, hb, hk⟩; refine ⟨_, rfl, ?_⟩; have n0_ := Aside0.mk (KeepBut.trans (by repeat (first | (with_reducible first | exact HK.out | apply KeepBut.set_ | apply keep_drewN | apply keep_drew | apply keep_alloc) | exact HK.out)) hk (.inl rfl)); have n1_ := Aside0.mk (hb); have n2_ := Aside0.mk (hi); clear HK; clear HB; clear HI0; have HK := n0_; have HB := n1_; have HI0 := n2_; clear n0_ n1_ n2_; (try clear hb); (try clear hb2); (try clear hk); (try clear hi)))
      go_ret
      exact ⟨zre, by repeat (first | (with_reducible first | exact HI0.out | apply IsS74.alloc | apply IsS74.drewN | apply IsS74.drew | apply IsS74.set_1 | apply IsS74.set_2) | exact HI0.out), by repeat (first | (with_reducible first | exact HB.out | apply below_alloc | apply pw_below_drewN | apply below_drew1 | refine below_set ?_ (IsS74.ge HI0.out)) | exact HB.out), by repeat (first | (with_reducible first | exact HK.out | apply KeepBut.set_ | apply keep_drewN | apply keep_drew | apply keep_alloc) | exact HK.out)⟩
    · rw [if_neg c6] at H
      have c6b0 : ((Int.tmod t131 2) == 1) = false := beq_eq_false_iff_ne.mpr c6
      have c6b1 : ((Int.tmod t131 2) != 1) = true := bne_iff_ne.mpr c6
      simp only [Option.some.injEq, Prod.mk.injEq] at H
      obtain ⟨rfl, rfl, rfl⟩ := H
      go_enter Try.func71, Try.ntmps71
      go_wp2_with (first | ((with_reducible refine gate_callee (f := 96) rfl ?_); refine goesL_ (some 5) rfl rfl Try.func96 (by kernel_rfl) rfl #[.pointer (some ⟨g, 0, none⟩)] rfl zar ?_; (with_reducible refine (spec_l06Reader_num.calls k g s0_0 s0_1 s0_2 t131 t132 t133 w0 _ ?side1 ?side2 A2.out).mono ?_); (case side1 => repeat (first | (with_reducible first | exact HI0.out | apply IsS74.alloc | apply IsS74.drewN | apply IsS74.drew | apply IsS74.set_1 | apply IsS74.set_2) | exact HI0.out)); (case side2 => repeat (first | (with_reducible first | exact HB.out | apply below_alloc | apply pw_below_drewN | apply below_drew1 | refine below_set ?_ (IsS74.ge HI0.out)) | exact HB.out)); rintro e w8 ⟨rfl, hi, hb, hk⟩; refine ⟨_, rfl, ?_⟩; have n0_ := Aside0.mk (KeepBut.trans (by repeat (first | (with_reducible first | exact HK.out | apply KeepBut.set_ | apply keep_drewN | apply keep_drew | apply keep_alloc) | exact HK.out)) hk (.inl rfl)); have n1_ := Aside0.mk (hb); have n2_ := Aside0.mk (hi); clear HK; clear HB; clear HI0; have HK := n0_; have HB := n1_; have HI0 := n2_; clear n0_ n1_ n2_; (try clear hb); (try clear hb2); (try clear hk); (try clear hi)))
      go_ret
      exact ⟨zre, by repeat (first | (with_reducible first | exact HI0.out | apply IsS74.alloc | apply IsS74.drewN | apply IsS74.drew | apply IsS74.set_1 | apply IsS74.set_2) | exact HI0.out), by repeat (first | (with_reducible first | exact HB.out | apply below_alloc | apply pw_below_drewN | apply below_drew1 | refine below_set ?_ (IsS74.ge HI0.out)) | exact HB.out), by repeat (first | (with_reducible first | exact HK.out | apply KeepBut.set_ | apply keep_drewN | apply keep_drew | apply keep_alloc) | exact HK.out)⟩

end Go.Proofs.Ytnpdmleglcbobaa.XFnExactReadDoc
