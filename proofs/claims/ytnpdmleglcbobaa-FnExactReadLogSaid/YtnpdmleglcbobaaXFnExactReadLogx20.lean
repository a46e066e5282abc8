-- A printed text of this session (wip/x/xprint.py).
import Derived.Test.YtnpdmleglcbobaaXFnExactReadLogx0
import Derived.Test.YtnpdmleglcbobaaXFnExactReadLogx19
namespace Go.Proofs.Ytnpdmleglcbobaa.XFnExactReadLog
open Go.RowKit Go.Proofs.YtnpdmleglcbobaaW.PrintWords Go.Proofs.YtnpdmleglcbobaaW.PrintLast Go.Proofs.YtnpdmleglcbobaaW.PrintMore
attribute [local go_sem] max2_int min2_int max_two min_two max_three min_three max_four min_four   -- for this text's walks alone
set_option linter.unusedVariables false
set_option linter.unusedSimpArgs false

/-! ### laws_markValueS: function 42 -/
def laws_markValueS.l0 : Nat → List S66 → Int → Int → Option (Int × List S66)
  | 0, _, _, _ => none
  | k + 1, x0, x1, x5 => if x5 < (x0.length : Int) then ((laws_markText.f k x1).bind fun t => (if 0 ≤ x5 then ((laws_markStringS.f k (rd_T66 x0 x5).f1 (wrap64 (x1 + 1))).bind fun b1 => ((laws_markIntS.f k (rd_T66 x0 x5).f2 b1.1).bind fun b2 => (laws_markValueS.l0 k (x0.set (x5 : Int).toNat ⟨t, b1.2, b2.2⟩) b2.1 (wrap64 (x5 + 1))))) else (none))) else (some (x1, x0))
def laws_markValueS.f (k : Nat) (l0 : List S66) (a1 : Int) : Option (Int × List S66) := laws_markValueS.l0 k l0 a1 0
theorem laws_markValueS.mono_l : ∀ k, (∀ y0 y1 y2, LeO (laws_markValueS.l0 k y0 y1 y2) (laws_markValueS.l0 (k + 1) y0 y1 y2))
  | 0 => fun _ _ _ r h => by simp [laws_markValueS.l0] at h
  | k + 1 => by
    have ih0 := laws_markValueS.mono_l k
    intro y0 y1 y2
    unfold laws_markValueS.l0
    repeat' first
      | (with_reducible exact ih0 _ _ _)
      | (with_reducible exact laws_markText.mono _ _)
      | (with_reducible exact laws_markStringS.mono _ _ _)
      | (with_reducible exact laws_markIntS.mono _ _ _)
      | (with_reducible exact LeO.refl _)
      | (with_reducible exact LeO.none _)
      | (with_reducible refine LeO.ite ?_ ?_)
      | (with_reducible refine LeO.bind ?_ (fun _ => ?_))
theorem laws_markValueS.mono : ∀ a0 a1 k, LeO (laws_markValueS.f k a0 a1) (laws_markValueS.f (k + 1) a0 a1) := by
  intro a0 a1 k
  unfold laws_markValueS.f
  exact laws_markValueS.mono_l k _ _ _
section
variable {α : Type} {d : Kd α} {e base b e' : Nat} {W W2 : World} {ok okp : Nat → Prop} {v : Value} {xs : List α} {E' : List Nat}
/-- Rows of other types stay, where the blocks of some types alone were written. -/
theorem Kd.R_keptT (h : d.R e W base ok v xs) (hk : Kept W W2 (fun k => okp k ∧ b ≤ k ∧ k < W.heap.size ∧ ∃ q, q ∈ e' :: E' ∧ ∃ cells, W.heap[k]? = some (.cells cells q (0, 0)))) (ht : ∀ q, q ∈ e :: d.E → q ∉ e' :: E') : d.R e W2 base ok v xs := by
  refine Kd.R_mono (Kd.R_kept (Kd.R_bound h) hk (fun k h1 h2 => ?_)) (fun _ h => h.1)
  obtain ⟨_, _, _, q, hq, c, hc⟩ := h1
  obtain ⟨_, _, _, q', hq', c', hc'⟩ := h2
  rw [hc] at hc'
  injection hc' with hc'
  injection hc' with _ hc'
  subst hc'
  exact ht q hq hq'
theorem Kd.S_keptT (h : d.S e W base ok v xs) (hk : Kept W W2 (fun k => okp k ∧ b ≤ k ∧ k < W.heap.size ∧ ∃ q, q ∈ e' :: E' ∧ ∃ cells, W.heap[k]? = some (.cells cells q (0, 0)))) (ht : ∀ q, q ∈ e :: d.E → q ∉ e' :: E') : d.S e W2 base ok v xs := by
  obtain ⟨f, h⟩ := h
  exact ⟨f, Kd.R_keptT h hk ht⟩
theorem blk_keptT {g t : Nat} {cs : Array Value} (h : W.heap[g]? = some (.cells cs t (0, 0))) (hk : Kept W W2 (fun k => okp k ∧ b ≤ k ∧ k < W.heap.size ∧ ∃ q, q ∈ e' :: E' ∧ ∃ cells, W.heap[k]? = some (.cells cells q (0, 0)))) (ht : t ∉ e' :: E') : W2.heap[g]? = some (.cells cs t (0, 0)) := by
  refine blk_kept h hk (fun h2 => ?_)
  obtain ⟨_, _, _, q', hq', c', hc'⟩ := h2
  rw [h] at hc'
  injection hc' with hc'
  injection hc' with _ hc'
  subst hc'
  exact ht hq'
end
section
variable {W : World} {base g n cap : Nat} {P : Nat → Prop} {xs : List S66}
theorem laws_markValueS.len (h : Kd.S k66 66 W base P (.slice (some ⟨g, 0, none⟩) n cap) xs) : n = xs.length := (Kd.R_reads' (Kd.S_R h)).1
/-- An element's text stored. -/
theorem laws_markValueS.f0 (h : Kd.S k66 66 W base P (.slice (some ⟨g, 0, none⟩) n cap) xs) (i : Int) (h0 : 0 ≤ i) (h1 : i < n) :
    W.cell? ⟨g, i.toNat * 3, none⟩ = some (.string (rd_T66 xs i).f0) ∧ W.frozen? ⟨g, i.toNat * 3, none⟩ = false ∧ P g ∧ ∀ t : ByteArray, Kd.S k66 66 (W.setCell ⟨g, i.toNat * 3, none⟩ (.string t)) base P (.slice (some ⟨g, 0, none⟩) n cap) (xs.set i.toNat ⟨t, (rd_T66 xs i).f1, (rd_T66 xs i).f2⟩) ∧ W.grownBy (W.setCell ⟨g, i.toNat * 3, none⟩ (.string t)) (some g) := by
  have hP : P g := (Kd.S_R h).1 g rfl
  obtain ⟨oki, ce, hcl, hM, hcc, hfr, hoki, hH⟩ := Kd.S_elem h z66 i h0 h1
  obtain ⟨v1, v2, rfl, g1, g2⟩ := k66_openM hM
  refine ⟨hcc 0 _ rfl, hfr 0, hP, fun t => ?_⟩
  exact Kd.S_seg0 hH h0 h1 (seg := [.string t]) (j := 0) (show 1 ≤ 3 from by decide) (x' := ⟨t, (rd_T66 xs i).f1, (rd_T66 xs i).f2⟩) (k66_mkM _ _ _ ⟨t, (rd_T66 xs i).f1, (rd_T66 xs i).f2⟩ g1 g2) (fun _ hk => hk)
theorem laws_markValueS.ne {d1 d2 : Nat} {α β : Type} {k1 : Kd α} {k2 : Kd β} {ok : Nat → Prop} {v1 v2 : Value} {l1 : List α} {l2 : List β} (g1 : k1.R d1 W base ok v1 l1) (g2 : k2.R d2 W base ok v2 l2) (hd : d1 ≠ d2) (k : Nat) (e1 : some k = v1.ownBlock) (e2 : some k = v2.ownBlock) : False := by
  obtain ⟨c1, h1⟩ := Kd.R_typed g1 k e1.symm
  obtain ⟨c2, h2⟩ := Kd.R_typed g2 k e2.symm
  rw [h1] at h2
  injection h2 with h2
  injection h2 with _ h2
  exact hd h2
/-- An element's texts written. -/
theorem laws_markValueS.f1 (h : Kd.S k66 66 W base P (.slice (some ⟨g, 0, none⟩) n cap) xs) (i : Int) (h0 : 0 ≤ i) (h1 : i < n) :
    ∃ A1 c1, W.cell? ⟨g, i.toNat * 3 + 1, none⟩ = some (.slice A1 (rd_T66 xs i).f1.length c1) ∧ Kd.R Kd.string 9 W base (fun k => some k = (Value.slice A1 (rd_T66 xs i).f1.length c1).ownBlock) (.slice A1 (rd_T66 xs i).f1.length c1) (rd_T66 xs i).f1 ∧ (∀ k, some k = (Value.slice A1 (rd_T66 xs i).f1.length c1).ownBlock → P k) ∧
      ∀ (W2 : World) (ok2 : Nat → Prop) (ys : List ByteArray), Kd.R Kd.string 9 W2 base ok2 (.slice A1 (rd_T66 xs i).f1.length c1) ys → Kept W W2 (fun k => some k = (Value.slice A1 (rd_T66 xs i).f1.length c1).ownBlock) → Kd.S k66 66 W2 base P (.slice (some ⟨g, 0, none⟩) n cap) (xs.set i.toNat ⟨(rd_T66 xs i).f0, ys, (rd_T66 xs i).f2⟩) := by
  obtain ⟨oki, ce, hcl, hM, hcc, hfr, hoki, hH⟩ := Kd.S_elem h z66 i h0 h1
  obtain ⟨v1, v2, rfl, g1, g2⟩ := k66_openM hM
  have hx : W.cell? ⟨g, i.toNat * 3 + 1, none⟩ = some v1 := hcc 1 _ rfl
  obtain ⟨A1, c1, rfl⟩ := Kd.R_slice g1
  refine ⟨A1, c1, hx, Kd.R_tight rfl g1, fun k e => (hoki k (g1.1 k e.symm)).1, fun W2 ok2 ys hr hk => ?_⟩
  have g2' := Kd.R_mono (Kd.R_kept (Kd.R_tight rfl g2) hk (fun k e2 e1 => laws_markValueS.ne g1 g2 (by decide) k e1 e2)) (fun k e => g2.1 k e.symm)
  have g1' := Kd.R_reok rfl hr (fun k e => g1.1 k e)
  exact Kd.H_back (Kd.H_step hH (fun k _ hn hlt => hk.2 k hlt (fun e => hn (g1.1 k e.symm)))) (k66_mkM W2 base oki ⟨(rd_T66 xs i).f0, ys, (rd_T66 xs i).f2⟩ g1' g2') (fun _ hk => hk)
/-- An element's numbers written. -/
theorem laws_markValueS.f2 (h : Kd.S k66 66 W base P (.slice (some ⟨g, 0, none⟩) n cap) xs) (i : Int) (h0 : 0 ≤ i) (h1 : i < n) :
    ∃ A1 c1, W.cell? ⟨g, i.toNat * 3 + 2, none⟩ = some (.slice A1 (rd_T66 xs i).f2.length c1) ∧ Kd.R (Kd.int .i64) 3 W base (fun k => some k = (Value.slice A1 (rd_T66 xs i).f2.length c1).ownBlock) (.slice A1 (rd_T66 xs i).f2.length c1) (rd_T66 xs i).f2 ∧ (∀ k, some k = (Value.slice A1 (rd_T66 xs i).f2.length c1).ownBlock → P k) ∧
      ∀ (W2 : World) (ok2 : Nat → Prop) (ys : List Int), Kd.R (Kd.int .i64) 3 W2 base ok2 (.slice A1 (rd_T66 xs i).f2.length c1) ys → Kept W W2 (fun k => some k = (Value.slice A1 (rd_T66 xs i).f2.length c1).ownBlock) → Kd.S k66 66 W2 base P (.slice (some ⟨g, 0, none⟩) n cap) (xs.set i.toNat ⟨(rd_T66 xs i).f0, (rd_T66 xs i).f1, ys⟩) := by
  obtain ⟨oki, ce, hcl, hM, hcc, hfr, hoki, hH⟩ := Kd.S_elem h z66 i h0 h1
  obtain ⟨v1, v2, rfl, g1, g2⟩ := k66_openM hM
  have hx : W.cell? ⟨g, i.toNat * 3 + 2, none⟩ = some v2 := hcc 2 _ rfl
  obtain ⟨A1, c1, rfl⟩ := Kd.R_slice g2
  refine ⟨A1, c1, hx, Kd.R_tight rfl g2, fun k e => (hoki k (g2.1 k e.symm)).1, fun W2 ok2 ys hr hk => ?_⟩
  have g1' := Kd.R_mono (Kd.R_kept (Kd.R_tight rfl g1) hk (fun k e1 e2 => laws_markValueS.ne g1 g2 (by decide) k e1 e2)) (fun k e => g1.1 k e.symm)
  have g2' := Kd.R_reok rfl hr (fun k e => g2.1 k e)
  exact Kd.H_back (Kd.H_step hH (fun k _ hn hlt => hk.2 k hlt (fun e => hn (g2.1 k e.symm)))) (k66_mkM W2 base oki ⟨(rd_T66 xs i).f0, (rd_T66 xs i).f1, ys⟩ g1' g2') (fun _ hk => hk)
theorem laws_markValueS.rdset (xs : List S66) (i : Int) (v : S66) (h0 : 0 ≤ i) (h1 : i < (xs.length : Int)) : rd_T66 (xs.set i.toNat v) i = v := by
  unfold rd_T66
  rw [List.getD_eq_getElem?_getD, List.getElem?_set_self (by omega)]; rfl
end
set_option maxHeartbeats 8000000 in
set_option maxRecDepth 100000 in
theorem laws_markValueS.calls (k : Nat) (P0_ : Nat → Prop) (u9000_ : Value) (l0 : List S66) (a1 : Int) (r1 : Int) (r2 : List S66) (w0 w : World) (hB : Below w0.heap.size w0 w) (ho0 : Kd.S k66 66 w w0.heap.size P0_ u9000_ l0) (h : laws_markValueS.f k l0 a1 = some (r1, r2)) :
    Calls Try.prog 42 #[u9000_, .int .i64 a1] w fun e w' => e = .returned (.int .i64 r1) ∧ Kd.S k66 66 w' w0.heap.size (fun k_ => P0_ k_) u9000_ r2 ∧ Below w0.heap.size w0 w' ∧ Kept w w' (fun k_ => P0_ k_) := by
  have HO0 := Aside0.mk ho0
  have HK := Aside0.mk (Kept.refl w (fun k_ => P0_ k_))
  have HB := Aside0.mk hB
  clear hB ho0
  have H' := Aside0.mk (show laws_markValueS.l0 k l0 a1 0 = some (r1, r2) from h)
  clear h
  go_enter Try.func42, Try.ntmps42
  go_wp2
  go_loopg [1, 5] k (fun kq v1 v5 w' => ∃ (x0_1 : List S66) (x1_1 : Int) (x5_1 : Int), v1 = .int .i64 x1_1 ∧ v5 = .int .i64 x5_1 ∧ Aside0 (laws_markValueS.l0 kq x0_1 x1_1 x5_1 = some (r1, r2)) ∧ Aside0 (kq ≤ k) ∧ Aside0 (Kd.S k66 66 w' w0.heap.size (fun k_ => P0_ k_) u9000_ x0_1) ∧ Aside0 (Kept w w' (fun k_ => P0_ k_)) ∧ Aside0 (Below w0.heap.size w0 w'))
  case atStart => exact ⟨l0, a1, 0, zrs, zrs, H', ⟨Nat.le_refl _⟩, ⟨HO0.out⟩, ⟨HK.out⟩, ⟨HB.out⟩⟩
  case round =>
    clear H'
    obtain ⟨x0_1, x1_1, x5_1, rfl, rfl, HA, HK1, HO_0, HK, HB⟩ := hrel
    cases gk with
    | zero => exact absurd HA.out (by simp [laws_markValueS.l0])
    | succ k1 =>
      have H := HA.out
      clear HA
      simp only [laws_markValueS.l0] at H
      by_cases c3 : x5_1 < (x0_1.length : Int)
      · rw [if_pos c3] at H
        have c3b0 : decide (x5_1 < (x0_1.length : Int)) = true := decide_eq_true c3
        replace H := Option.bind_eq_some_iff.mp H
        obtain ⟨t256, A40, H⟩ := H
        have A4 := Aside0.mk A40
        clear A40
        by_cases c5 : 0 ≤ x5_1
        · rw [if_pos c5] at H
          replace H := Option.bind_eq_some_iff.mp H
          obtain ⟨⟨b1, ys1⟩, A50, H⟩ := H
          replace H := Option.bind_eq_some_iff.mp H
          obtain ⟨⟨b2, ys2⟩, A60, H⟩ := H
          simp only at A50 A60 H
          have A5 := Aside0.mk A50
          have A6 := Aside0.mk A60
          have H' := Aside0.mk H
          clear H A50 A60
          obtain ⟨g, cap, rfl, hgb, hgl, cells, hgc⟩ := Kd.S_form HO_0.out (by omega)
          clear hgl hgc cells
          have C3 := Aside0.mk c3
          have C5 := Aside0.mk c5
          have p3 := eq_true c3
          have p5 := eq_true c5
          have HGB := Aside0.mk hgb
          clear c3 c5 hgb
          go_upto_region 5 with (first
            | (go_at_call 60; (with_reducible refine (laws_markText.calls k1 x1_1 t256 _ A4.out).mono ?_); rintro e w8 ⟨rfl, hb⟩
               have HO8 := Aside0.mk (Kd.S_below HO_0.out hb)
               have HK8 := Aside0.mk (Kept.below (S := (fun k_ => P0_ k_)) HK.out hb)
               have HB8 := Aside0.mk (below_step HB.out hb)
               have hq8 := laws_markValueS.f0 HO8.out x5_1 C5.out C3.out
               have HQ8 := Aside0.mk hq8
               have hx8 := hq8.1
               have hf8 := hq8.2.1
               clear HO_0 HK HB hb hq8))
          obtain ⟨w9, hw9⟩ : ∃ w9, w9 = w8.setCell { block := g, off := x5_1.toNat * 3 } (Value.string t256) := ⟨_, rfl⟩
          rw [← hw9]
          have HO9 := Aside0.mk (show Kd.S k66 66 w9 w0.heap.size (fun k_ => P0_ k_) (.slice (some ⟨g, 0, none⟩) x0_1.length cap) (x0_1.set x5_1.toNat ⟨t256, (rd_T66 x0_1 x5_1).f1, (rd_T66 x0_1 x5_1).f2⟩) from by rw [hw9]; exact (HQ8.out.2.2.2 t256).1)
          have HK9 := Aside0.mk (show Kept w w9 (fun k_ => P0_ k_) from by rw [hw9]; exact Kept.setCell HK8.out (.inl HQ8.out.2.2.1) _)
          have HB9 := Aside0.mk (show Below w0.heap.size w0 w9 from by rw [hw9]; exact HB8.out.setCell HGB.out _)
          clear hw9 hx8 hf8 HO8 HK8 HB8 HQ8
          have hset := laws_markValueS.rdset x0_1 x5_1 ⟨t256, (rd_T66 x0_1 x5_1).f1, (rd_T66 x0_1 x5_1).f2⟩ C5.out C3.out
          obtain ⟨A1, c1, hc1, hr1, hp1, hs1⟩ := laws_markValueS.f1 HO9.out x5_1 C5.out C3.out
          rw [hset] at hc1 hr1 hp1 hs1
          simp only [List.set_set] at hs1
          have HR1 := Aside0.mk hr1
          have HP1 := Aside0.mk hp1
          have HS1 := Aside0.mk hs1
          clear hset hr1 hp1 hs1
          have hm1 := fun W => laws_markStringS.calls k1 (fun k => some k = (Value.slice A1 (rd_T66 x0_1 x5_1).f1.length c1).ownBlock) (.slice A1 (rd_T66 x0_1 x5_1).f1.length c1) (rd_T66 x0_1 x5_1).f1 (wrap64 (x1_1 + 1)) b1 ys1 w0 W
          go_upto_region 7 with (first
            | (go_at_call 67; (with_reducible refine (hm1 _ HB9.out HR1.out A5.out).mono ?_); rintro e w10 ⟨rfl, hy, hb, hk⟩
               have HO10 := Aside0.mk (HS1.out _ _ _ hy hk)
               have HK10 := Aside0.mk (Kept.then_ HK9.out hk (fun k_ h_ => .inl (HP1.out k_ h_)))
               have HB10 := Aside0.mk hb
               clear hy hb hk HO9 HK9 HB9 HS1 HP1 HR1))
          clear hm1 hc1
          have hset := laws_markValueS.rdset x0_1 x5_1 ⟨t256, ys1, (rd_T66 x0_1 x5_1).f2⟩ C5.out C3.out
          obtain ⟨A2, c2, hc2, hr2, hp2, hs2⟩ := laws_markValueS.f2 HO10.out x5_1 C5.out C3.out
          rw [hset] at hc2 hr2 hp2 hs2
          simp only [List.set_set] at hs2
          have HR2 := Aside0.mk hr2
          have HP2 := Aside0.mk hp2
          have HS2 := Aside0.mk hs2
          clear hset hr2 hp2 hs2
          have hm2 := fun W => laws_markIntS.calls k1 (fun k => some k = (Value.slice A2 (rd_T66 x0_1 x5_1).f2.length c2).ownBlock) (.slice A2 (rd_T66 x0_1 x5_1).f2.length c2) (rd_T66 x0_1 x5_1).f2 b1 b2 ys2 w0 W
          go_wp2_with (first
            | (go_at_call 68; (with_reducible refine (hm2 _ HB10.out HR2.out A6.out).mono ?_); rintro e w11 ⟨rfl, hy, hb, hk⟩
               have HO11 := Aside0.mk (HS2.out _ _ _ hy hk)
               have HK11 := Aside0.mk (Kept.then_ HK10.out hk (fun k_ h_ => .inl (HP2.out k_ h_)))
               have HB11 := Aside0.mk hb
               clear hy hb hk HO10 HK10 HB10 HS2 HP2 HR2))
          go_roundg k1
          case measure => have := HK1.out; omega
          case rel => exact ⟨_, b2, wrap64 (x5_1 + 1), zrs, zrs, H', ⟨by have := HK1.out; omega⟩, HO11, HK11, HB11⟩
        · rw [if_neg c5] at H
          exact absurd H (by simp)
      · rw [if_neg c3] at H
        have c3b0 : decide (x5_1 < (x0_1.length : Int)) = false := decide_eq_false c3
        clear c3
        simp only [Option.some.injEq, Prod.mk.injEq] at H
        obtain ⟨rfl, rfl⟩ := H
        obtain ⟨Ao11, co11, eo11⟩ := Kd.S_slice HO_0.out
        subst eo11
        go_wp2
        go_ret
        exact ⟨zre, HO_0.out, HB.out, HK.out⟩

/-! ### laws_markRecordS: function 32 -/
def laws_markRecordS.l0 : Nat → List S47 → Int → Int → Option (Int × List S47)
  | 0, _, _, _ => none
  | k + 1, x0, x1, x5 => if x5 < (x0.length : Int) then (if 0 ≤ x5 then ((laws_markText.f k (wrap64 ((wrap64 (x1 + 1)) + 1))).bind fun t1 => ((laws_markText.f k (wrap64 ((wrap64 ((wrap64 (x1 + 1)) + 1)) + 1))).bind fun t2 => ((laws_markValueS.f k (rd_T47 x0 x5).f3.f1 (wrap64 ((wrap64 ((wrap64 ((wrap64 (x1 + 1)) + 1)) + 1)) + 1))).bind fun b => (laws_markRecordS.l0 k (x0.set (x5 : Int).toNat ⟨x1, wrap64 (x1 + 1), t1, ⟨t2, b.2⟩⟩) b.1 (wrap64 (x5 + 1)))))) else (none)) else (some (x1, x0))
def laws_markRecordS.f (k : Nat) (l0 : List S47) (a1 : Int) : Option (Int × List S47) := laws_markRecordS.l0 k l0 a1 0
theorem laws_markRecordS.mono_l : ∀ k, (∀ y0 y1 y2, LeO (laws_markRecordS.l0 k y0 y1 y2) (laws_markRecordS.l0 (k + 1) y0 y1 y2))
  | 0 => fun _ _ _ r h => by simp [laws_markRecordS.l0] at h
  | k + 1 => by
    have ih0 := laws_markRecordS.mono_l k
    intro y0 y1 y2
    unfold laws_markRecordS.l0
    repeat' first
      | (with_reducible exact ih0 _ _ _)
      | (with_reducible exact laws_markText.mono _ _)
      | (with_reducible exact laws_markValueS.mono _ _ _)
      | (with_reducible exact LeO.refl _)
      | (with_reducible exact LeO.none _)
      | (with_reducible refine LeO.ite ?_ ?_)
      | (with_reducible refine LeO.bind ?_ (fun _ => ?_))
theorem laws_markRecordS.mono : ∀ a0 a1 k, LeO (laws_markRecordS.f k a0 a1) (laws_markRecordS.f (k + 1) a0 a1) := by
  intro a0 a1 k
  unfold laws_markRecordS.f
  exact laws_markRecordS.mono_l k _ _ _
section
variable {W : World} {base g n cap : Nat} {P : Nat → Prop} {xs : List S47}
/-- A field of an element stored. -/
theorem laws_markRecordS.f0 (h : Kd.S k47 47 W base P (.slice (some ⟨g, 0, none⟩) n cap) xs) (i : Int) (h0 : 0 ≤ i) (h1 : i < n) :
    W.cell? ⟨g, i.toNat * 5, none⟩ = some (.int .i64 (rd_T47 xs i).f0) ∧ W.frozen? ⟨g, i.toNat * 5, none⟩ = false ∧ P g ∧ ∀ t : Int, Kd.S k47 47 (W.setCell ⟨g, i.toNat * 5, none⟩ (.int .i64 t)) base P (.slice (some ⟨g, 0, none⟩) n cap) (xs.set i.toNat ⟨t, (rd_T47 xs i).f1, (rd_T47 xs i).f2, (rd_T47 xs i).f3⟩) ∧ W.grownBy (W.setCell ⟨g, i.toNat * 5, none⟩ (.int .i64 t)) (some g) := by
  have hP : P g := (Kd.S_R h).1 g rfl
  obtain ⟨oki, ce, hcl, hM, hcc, hfr, hoki, hH⟩ := Kd.S_elem h z47 i h0 h1
  obtain ⟨v4, rfl, g4⟩ := k47_openM hM
  refine ⟨hcc 0 _ rfl, hfr 0, hP, fun t => ?_⟩
  exact Kd.S_seg0 hH h0 h1 (seg := [.int .i64 t]) (j := 0) (show 0 + 1 ≤ 5 from by decide) (x' := ⟨t, (rd_T47 xs i).f1, (rd_T47 xs i).f2, (rd_T47 xs i).f3⟩) (k47_mkM _ _ _ ⟨t, (rd_T47 xs i).f1, (rd_T47 xs i).f2, (rd_T47 xs i).f3⟩ g4) (fun _ hk => hk)
/-- A field of an element stored. -/
theorem laws_markRecordS.f1 (h : Kd.S k47 47 W base P (.slice (some ⟨g, 0, none⟩) n cap) xs) (i : Int) (h0 : 0 ≤ i) (h1 : i < n) :
    W.cell? ⟨g, i.toNat * 5 + 1, none⟩ = some (.int .i64 (rd_T47 xs i).f1) ∧ W.frozen? ⟨g, i.toNat * 5 + 1, none⟩ = false ∧ P g ∧ ∀ t : Int, Kd.S k47 47 (W.setCell ⟨g, i.toNat * 5 + 1, none⟩ (.int .i64 t)) base P (.slice (some ⟨g, 0, none⟩) n cap) (xs.set i.toNat ⟨(rd_T47 xs i).f0, t, (rd_T47 xs i).f2, (rd_T47 xs i).f3⟩) ∧ W.grownBy (W.setCell ⟨g, i.toNat * 5 + 1, none⟩ (.int .i64 t)) (some g) := by
  have hP : P g := (Kd.S_R h).1 g rfl
  obtain ⟨oki, ce, hcl, hM, hcc, hfr, hoki, hH⟩ := Kd.S_elem h z47 i h0 h1
  obtain ⟨v4, rfl, g4⟩ := k47_openM hM
  refine ⟨hcc 1 _ rfl, hfr 1, hP, fun t => ?_⟩
  exact Kd.S_seg0 hH h0 h1 (seg := [.int .i64 t]) (j := 1) (show 1 + 1 ≤ 5 from by decide) (x' := ⟨(rd_T47 xs i).f0, t, (rd_T47 xs i).f2, (rd_T47 xs i).f3⟩) (k47_mkM _ _ _ ⟨(rd_T47 xs i).f0, t, (rd_T47 xs i).f2, (rd_T47 xs i).f3⟩ g4) (fun _ hk => hk)
/-- A field of an element stored. -/
theorem laws_markRecordS.f2 (h : Kd.S k47 47 W base P (.slice (some ⟨g, 0, none⟩) n cap) xs) (i : Int) (h0 : 0 ≤ i) (h1 : i < n) :
    W.cell? ⟨g, i.toNat * 5 + 2, none⟩ = some (.string (rd_T47 xs i).f2) ∧ W.frozen? ⟨g, i.toNat * 5 + 2, none⟩ = false ∧ P g ∧ ∀ t : ByteArray, Kd.S k47 47 (W.setCell ⟨g, i.toNat * 5 + 2, none⟩ (.string t)) base P (.slice (some ⟨g, 0, none⟩) n cap) (xs.set i.toNat ⟨(rd_T47 xs i).f0, (rd_T47 xs i).f1, t, (rd_T47 xs i).f3⟩) ∧ W.grownBy (W.setCell ⟨g, i.toNat * 5 + 2, none⟩ (.string t)) (some g) := by
  have hP : P g := (Kd.S_R h).1 g rfl
  obtain ⟨oki, ce, hcl, hM, hcc, hfr, hoki, hH⟩ := Kd.S_elem h z47 i h0 h1
  obtain ⟨v4, rfl, g4⟩ := k47_openM hM
  refine ⟨hcc 2 _ rfl, hfr 2, hP, fun t => ?_⟩
  exact Kd.S_seg0 hH h0 h1 (seg := [.string t]) (j := 2) (show 2 + 1 ≤ 5 from by decide) (x' := ⟨(rd_T47 xs i).f0, (rd_T47 xs i).f1, t, (rd_T47 xs i).f3⟩) (k47_mkM _ _ _ ⟨(rd_T47 xs i).f0, (rd_T47 xs i).f1, t, (rd_T47 xs i).f3⟩ g4) (fun _ hk => hk)
/-- A field of an element stored. -/
theorem laws_markRecordS.f3 (h : Kd.S k47 47 W base P (.slice (some ⟨g, 0, none⟩) n cap) xs) (i : Int) (h0 : 0 ≤ i) (h1 : i < n) :
    W.cell? ⟨g, i.toNat * 5 + 3, none⟩ = some (.string (rd_T47 xs i).f3.f0) ∧ W.frozen? ⟨g, i.toNat * 5 + 3, none⟩ = false ∧ P g ∧ ∀ t : ByteArray, Kd.S k47 47 (W.setCell ⟨g, i.toNat * 5 + 3, none⟩ (.string t)) base P (.slice (some ⟨g, 0, none⟩) n cap) (xs.set i.toNat ⟨(rd_T47 xs i).f0, (rd_T47 xs i).f1, (rd_T47 xs i).f2, ⟨t, (rd_T47 xs i).f3.f1⟩⟩) ∧ W.grownBy (W.setCell ⟨g, i.toNat * 5 + 3, none⟩ (.string t)) (some g) := by
  have hP : P g := (Kd.S_R h).1 g rfl
  obtain ⟨oki, ce, hcl, hM, hcc, hfr, hoki, hH⟩ := Kd.S_elem h z47 i h0 h1
  obtain ⟨v4, rfl, g4⟩ := k47_openM hM
  refine ⟨hcc 3 _ rfl, hfr 3, hP, fun t => ?_⟩
  exact Kd.S_seg0 hH h0 h1 (seg := [.string t]) (j := 3) (show 3 + 1 ≤ 5 from by decide) (x' := ⟨(rd_T47 xs i).f0, (rd_T47 xs i).f1, (rd_T47 xs i).f2, ⟨t, (rd_T47 xs i).f3.f1⟩⟩) (k47_mkM _ _ _ ⟨(rd_T47 xs i).f0, (rd_T47 xs i).f1, (rd_T47 xs i).f2, ⟨t, (rd_T47 xs i).f3.f1⟩⟩ g4) (fun _ hk => hk)
/-- An element's rows written. -/
theorem laws_markRecordS.f4 (h : Kd.S k47 47 W base P (.slice (some ⟨g, 0, none⟩) n cap) xs) (i : Int) (h0 : 0 ≤ i) (h1 : i < n) :
    ∃ (oki : Nat → Prop) (A1 : Option Addr) (c1 : Nat), W.cell? ⟨g, i.toNat * 5 + 4, none⟩ = some (.slice A1 (rd_T47 xs i).f3.f1.length c1) ∧ Kd.S k66 66 W base oki (.slice A1 (rd_T47 xs i).f3.f1.length c1) (rd_T47 xs i).f3.f1 ∧ (∀ k, oki k → P k) ∧
      ∀ (W2 : World) (ys : List S66), Kd.S k66 66 W2 base oki (.slice A1 (rd_T47 xs i).f3.f1.length c1) ys → Kept W W2 oki → Kd.S k47 47 W2 base P (.slice (some ⟨g, 0, none⟩) n cap) (xs.set i.toNat ⟨(rd_T47 xs i).f0, (rd_T47 xs i).f1, (rd_T47 xs i).f2, ⟨(rd_T47 xs i).f3.f0, ys⟩⟩) := by
  obtain ⟨oki, ce, hcl, hM, hcc, hfr, hoki, hH⟩ := Kd.S_elem h z47 i h0 h1
  obtain ⟨v4, rfl, g4⟩ := k47_openM hM
  have hx : W.cell? ⟨g, i.toNat * 5 + 4, none⟩ = some v4 := hcc 4 _ rfl
  obtain ⟨A1, c1, rfl⟩ := Kd.S_slice g4
  refine ⟨oki, A1, c1, hx, g4, fun k e => (hoki k e).1, fun W2 ys hr hk => ?_⟩
  exact Kd.H_back (Kd.H_step hH (fun k _ hn hlt => hk.2 k hlt hn)) (k47_mkM W2 base oki ⟨(rd_T47 xs i).f0, (rd_T47 xs i).f1, (rd_T47 xs i).f2, ⟨(rd_T47 xs i).f3.f0, ys⟩⟩ hr) (fun _ hk => hk)
theorem laws_markRecordS.rdset (xs : List S47) (i : Int) (v : S47) (h0 : 0 ≤ i) (h1 : i < (xs.length : Int)) : rd_T47 (xs.set i.toNat v) i = v := by
  unfold rd_T47
  rw [List.getD_eq_getElem?_getD, List.getElem?_set_self (by omega)]; rfl
end
set_option maxHeartbeats 8000000 in
set_option maxRecDepth 100000 in
theorem laws_markRecordS.calls (k : Nat) (P0_ : Nat → Prop) (u9000_ : Value) (l0 : List S47) (a1 : Int) (r1 : Int) (r2 : List S47) (w0 w : World) (hB : Below w0.heap.size w0 w) (ho0 : Kd.S k47 47 w w0.heap.size P0_ u9000_ l0) (h : laws_markRecordS.f k l0 a1 = some (r1, r2)) :
    Calls Try.prog 32 #[u9000_, .int .i64 a1] w fun e w' => e = .returned (.int .i64 r1) ∧ Kd.S k47 47 w' w0.heap.size (fun k_ => P0_ k_) u9000_ r2 ∧ Below w0.heap.size w0 w' ∧ Kept w w' (fun k_ => P0_ k_) := by
  have HO0 := Aside0.mk ho0
  have HK := Aside0.mk (Kept.refl w (fun k_ => P0_ k_))
  have HB := Aside0.mk hB
  clear hB ho0
  have H' := Aside0.mk (show laws_markRecordS.l0 k l0 a1 0 = some (r1, r2) from h)
  clear h
  go_enter Try.func32, Try.ntmps32
  go_wp2
  go_loopg [1, 5] k (fun kq v1 v5 w' => ∃ (x0_1 : List S47) (x1_1 : Int) (x5_1 : Int), v1 = .int .i64 x1_1 ∧ v5 = .int .i64 x5_1 ∧ Aside0 (laws_markRecordS.l0 kq x0_1 x1_1 x5_1 = some (r1, r2)) ∧ Aside0 (kq ≤ k) ∧ Aside0 (Kd.S k47 47 w' w0.heap.size (fun k_ => P0_ k_) u9000_ x0_1) ∧ Aside0 (Kept w w' (fun k_ => P0_ k_)) ∧ Aside0 (Below w0.heap.size w0 w'))
  case atStart => exact ⟨l0, a1, 0, zrs, zrs, H', ⟨Nat.le_refl _⟩, ⟨HO0.out⟩, ⟨HK.out⟩, ⟨HB.out⟩⟩
  case round =>
    clear H'
    obtain ⟨x0_1, x1_1, x5_1, rfl, rfl, HA, HK1, HO_0, HK, HB⟩ := hrel
    cases gk with
    | zero => exact absurd HA.out (by simp [laws_markRecordS.l0])
    | succ k1 =>
      have H := HA.out
      clear HA
      simp only [laws_markRecordS.l0] at H
      by_cases c3 : x5_1 < (x0_1.length : Int)
      · rw [if_pos c3] at H
        have c3b0 : decide (x5_1 < (x0_1.length : Int)) = true := decide_eq_true c3
        by_cases c5 : 0 ≤ x5_1
        · rw [if_pos c5] at H
          replace H := Option.bind_eq_some_iff.mp H
          obtain ⟨t1, A40, H⟩ := H
          replace H := Option.bind_eq_some_iff.mp H
          obtain ⟨t2, A50, H⟩ := H
          replace H := Option.bind_eq_some_iff.mp H
          obtain ⟨⟨b1, ys1⟩, A60, H⟩ := H
          simp only at A40 A50 A60 H
          have A4 := Aside0.mk A40
          have A5 := Aside0.mk A50
          have A6 := Aside0.mk A60
          have H' := Aside0.mk H
          clear H A40 A50 A60
          obtain ⟨g, cap, rfl, hgb, hgl, cells, hgc⟩ := Kd.S_form HO_0.out (by omega)
          clear hgl hgc cells
          have C3 := Aside0.mk c3
          have C5 := Aside0.mk c5
          have p3 := eq_true c3
          have p5 := eq_true c5
          have HGB := Aside0.mk hgb
          clear c3 c5 hgb
          have hq0 := laws_markRecordS.f0 HO_0.out x5_1 C5.out C3.out
          have HQ0 := Aside0.mk hq0
          have hx0 := hq0.1
          have hf0 := hq0.2.1
          clear hq0
          go_upto_region 5 with (done)
          obtain ⟨ws0, hw0⟩ : ∃ ws0, ws0 = wr.setCell { block := g, off := x5_1.toNat * 5 } (Value.int .i64 x1_1) := ⟨_, rfl⟩
          rw [← hw0]
          have HOs0 := Aside0.mk (show Kd.S k47 47 ws0 w0.heap.size (fun k_ => P0_ k_) (.slice (some ⟨g, 0, none⟩) x0_1.length cap) (x0_1.set x5_1.toNat ⟨x1_1, (rd_T47 x0_1 x5_1).f1, (rd_T47 x0_1 x5_1).f2, (rd_T47 x0_1 x5_1).f3⟩) from by rw [hw0]; exact (HQ0.out.2.2.2 x1_1).1)
          have HKs0 := Aside0.mk (show Kept w ws0 (fun k_ => P0_ k_) from by rw [hw0]; exact Kept.setCell HK.out (.inl HQ0.out.2.2.1) _)
          have HBs0 := Aside0.mk (show Below w0.heap.size w0 ws0 from by rw [hw0]; exact HB.out.setCell HGB.out _)
          clear hw0 hx0 hf0 HQ0 HO_0 HK HB
          have hq1 := laws_markRecordS.f1 HOs0.out x5_1 C5.out C3.out
          rw [laws_markRecordS.rdset x0_1 x5_1 ⟨x1_1, (rd_T47 x0_1 x5_1).f1, (rd_T47 x0_1 x5_1).f2, (rd_T47 x0_1 x5_1).f3⟩ C5.out C3.out] at hq1
          simp only [List.set_set] at hq1
          have HQ1 := Aside0.mk hq1
          have hx1 := hq1.1
          have hf1 := hq1.2.1
          clear hq1
          go_upto_region 7 with (done)
          obtain ⟨ws1, hw1⟩ : ∃ ws1, ws1 = ws0.setCell { block := g, off := x5_1.toNat * 5 + 1 } (Value.int .i64 (wrap64 (x1_1 + 1))) := ⟨_, rfl⟩
          rw [← hw1]
          have HOs1 := Aside0.mk (show Kd.S k47 47 ws1 w0.heap.size (fun k_ => P0_ k_) (.slice (some ⟨g, 0, none⟩) x0_1.length cap) (x0_1.set x5_1.toNat ⟨x1_1, (wrap64 (x1_1 + 1)), (rd_T47 x0_1 x5_1).f2, (rd_T47 x0_1 x5_1).f3⟩) from by rw [hw1]; exact (HQ1.out.2.2.2 (wrap64 (x1_1 + 1))).1)
          have HKs1 := Aside0.mk (show Kept w ws1 (fun k_ => P0_ k_) from by rw [hw1]; exact Kept.setCell HKs0.out (.inl HQ1.out.2.2.1) _)
          have HBs1 := Aside0.mk (show Below w0.heap.size w0 ws1 from by rw [hw1]; exact HBs0.out.setCell HGB.out _)
          clear hw1 hx1 hf1 HQ1 HOs0 HKs0 HBs0
          go_upto_region 9 with (first
            | (go_at_call 60; (with_reducible refine (laws_markText.calls k1 (wrap64 ((wrap64 (x1_1 + 1)) + 1)) t1 _ A4.out).mono ?_); rintro e wc2 ⟨rfl, hb⟩
               have HOc2 := Aside0.mk (Kd.S_below HOs1.out hb)
               have HKc2 := Aside0.mk (Kept.below (S := (fun k_ => P0_ k_)) HKs1.out hb)
               have HBc2 := Aside0.mk (below_step HBs1.out hb)
               have hq2 := laws_markRecordS.f2 HOc2.out x5_1 C5.out C3.out
               rw [laws_markRecordS.rdset x0_1 x5_1 ⟨x1_1, (wrap64 (x1_1 + 1)), (rd_T47 x0_1 x5_1).f2, (rd_T47 x0_1 x5_1).f3⟩ C5.out C3.out] at hq2
               simp only [List.set_set] at hq2
               have HQ2 := Aside0.mk hq2
               have hx2 := hq2.1
               have hf2 := hq2.2.1
               clear hq2
               clear HOs1 HKs1 HBs1 hb))
          obtain ⟨ws2, hw2⟩ : ∃ ws2, ws2 = wc2.setCell { block := g, off := x5_1.toNat * 5 + 2 } (Value.string t1) := ⟨_, rfl⟩
          rw [← hw2]
          have HOs2 := Aside0.mk (show Kd.S k47 47 ws2 w0.heap.size (fun k_ => P0_ k_) (.slice (some ⟨g, 0, none⟩) x0_1.length cap) (x0_1.set x5_1.toNat ⟨x1_1, (wrap64 (x1_1 + 1)), t1, (rd_T47 x0_1 x5_1).f3⟩) from by rw [hw2]; exact (HQ2.out.2.2.2 t1).1)
          have HKs2 := Aside0.mk (show Kept w ws2 (fun k_ => P0_ k_) from by rw [hw2]; exact Kept.setCell HKc2.out (.inl HQ2.out.2.2.1) _)
          have HBs2 := Aside0.mk (show Below w0.heap.size w0 ws2 from by rw [hw2]; exact HBc2.out.setCell HGB.out _)
          clear hw2 hx2 hf2 HQ2 HOc2 HKc2 HBc2
          go_upto_region 11 with (first
            | (go_at_call 60; (with_reducible refine (laws_markText.calls k1 (wrap64 ((wrap64 ((wrap64 (x1_1 + 1)) + 1)) + 1)) t2 _ A5.out).mono ?_); rintro e wc3 ⟨rfl, hb⟩
               have HOc3 := Aside0.mk (Kd.S_below HOs2.out hb)
               have HKc3 := Aside0.mk (Kept.below (S := (fun k_ => P0_ k_)) HKs2.out hb)
               have HBc3 := Aside0.mk (below_step HBs2.out hb)
               have hq3 := laws_markRecordS.f3 HOc3.out x5_1 C5.out C3.out
               rw [laws_markRecordS.rdset x0_1 x5_1 ⟨x1_1, (wrap64 (x1_1 + 1)), t1, (rd_T47 x0_1 x5_1).f3⟩ C5.out C3.out] at hq3
               simp only [List.set_set] at hq3
               have HQ3 := Aside0.mk hq3
               have hx3 := hq3.1
               have hf3 := hq3.2.1
               clear hq3
               clear HOs2 HKs2 HBs2 hb))
          obtain ⟨ws3, hw3⟩ : ∃ ws3, ws3 = wc3.setCell { block := g, off := x5_1.toNat * 5 + 3 } (Value.string t2) := ⟨_, rfl⟩
          rw [← hw3]
          have HOs3 := Aside0.mk (show Kd.S k47 47 ws3 w0.heap.size (fun k_ => P0_ k_) (.slice (some ⟨g, 0, none⟩) x0_1.length cap) (x0_1.set x5_1.toNat ⟨x1_1, (wrap64 (x1_1 + 1)), t1, ⟨t2, (rd_T47 x0_1 x5_1).f3.f1⟩⟩) from by rw [hw3]; exact (HQ3.out.2.2.2 t2).1)
          have HKs3 := Aside0.mk (show Kept w ws3 (fun k_ => P0_ k_) from by rw [hw3]; exact Kept.setCell HKc3.out (.inl HQ3.out.2.2.1) _)
          have HBs3 := Aside0.mk (show Below w0.heap.size w0 ws3 from by rw [hw3]; exact HBc3.out.setCell HGB.out _)
          clear hw3 hx3 hf3 HQ3 HOc3 HKc3 HBc3
          obtain ⟨oki, A1, c1, hc1, hr1, hp1, hs1⟩ := laws_markRecordS.f4 HOs3.out x5_1 C5.out C3.out
          rw [laws_markRecordS.rdset x0_1 x5_1 ⟨x1_1, (wrap64 (x1_1 + 1)), t1, ⟨t2, (rd_T47 x0_1 x5_1).f3.f1⟩⟩ C5.out C3.out] at hc1 hr1 hs1
          simp only [List.set_set] at hs1
          have HR1 := Aside0.mk hr1
          have HP1 := Aside0.mk hp1
          have HS1 := Aside0.mk hs1
          clear hr1 hp1 hs1
          have hm1 := fun W => laws_markValueS.calls k1 oki (.slice A1 (rd_T47 x0_1 x5_1).f3.f1.length c1) (rd_T47 x0_1 x5_1).f3.f1 (wrap64 ((wrap64 ((wrap64 ((wrap64 (x1_1 + 1)) + 1)) + 1)) + 1)) b1 ys1 w0 W
          go_wp2_with (first
            | (go_at_call 42; (with_reducible refine (hm1 _ HBs3.out HR1.out A6.out).mono ?_); rintro e w10 ⟨rfl, hy, hb, hk⟩
               have HO10 := Aside0.mk (HS1.out _ _ hy hk)
               have HK10 := Aside0.mk (Kept.then_ HKs3.out hk (fun k_ h_ => .inl (HP1.out k_ h_)))
               have HB10 := Aside0.mk hb
               clear hy hb hk HOs3 HKs3 HBs3 HS1 HP1 HR1))
          go_roundg k1
          case measure => have := HK1.out; omega
          case rel => exact ⟨_, b1, wrap64 (x5_1 + 1), zrs, zrs, H', ⟨by have := HK1.out; omega⟩, HO10, HK10, HB10⟩
        · rw [if_neg c5] at H
          exact absurd H (by simp)
      · rw [if_neg c3] at H
        have c3b0 : decide (x5_1 < (x0_1.length : Int)) = false := decide_eq_false c3
        clear c3
        simp only [Option.some.injEq, Prod.mk.injEq] at H
        obtain ⟨rfl, rfl⟩ := H
        obtain ⟨Ao11, co11, eo11⟩ := Kd.S_slice HO_0.out
        subst eo11
        go_wp2
        go_ret
        exact ⟨zre, HO_0.out, HB.out, HK.out⟩

/-! ### laws_heldStringS: function 74 -/
def laws_heldStringS.l0 : Nat → List ByteArray → Int → Int → Option (Int)
  | 0, _, _, _ => none
  | k + 1, x0, x1, x5 => if x5 < (x0.length : Int) then (if 0 ≤ x5 then ((laws_markText.f k x1).bind fun t544 => (if (rdOf ByteArray.empty x0 x5).toList = t544.toList then (laws_heldStringS.l0 k x0 (wrap64 (x1 + 1)) (wrap64 (x5 + 1))) else (some (-1)))) else (none)) else (some x1)
def laws_heldStringS.f (k : Nat) (l0 : List ByteArray) (a1 : Int) : Option (Int) := laws_heldStringS.l0 k l0 a1 0
theorem laws_heldStringS.mono_l : ∀ k, (∀ y0 y1 y2, LeO (laws_heldStringS.l0 k y0 y1 y2) (laws_heldStringS.l0 (k + 1) y0 y1 y2))
  | 0 => fun _ _ _ r h => by simp [laws_heldStringS.l0] at h
  | k + 1 => by
    have ih0 := laws_heldStringS.mono_l k
    · intro y0 y1 y2
      unfold laws_heldStringS.l0
      repeat' first
      | (with_reducible exact ih0 _ _ _)
      | (with_reducible exact laws_markText.mono _ _)
      | (with_reducible exact LeO.refl _)
      | (with_reducible exact LeO.none _)
      | (with_reducible refine LeO.ite ?_ ?_)
      | (with_reducible refine LeO.bind ?_ (fun _ => ?_))
theorem laws_heldStringS.mono : ∀ a0 a1 k, LeO (laws_heldStringS.f k a0 a1) (laws_heldStringS.f (k + 1) a0 a1) := by
  intro a0 a1 k
  have ih0 := laws_heldStringS.mono_l k
  unfold laws_heldStringS.f
  repeat' first
      | (with_reducible exact ih0 _ _ _)
      | (with_reducible exact laws_markText.mono _ _)
      | (with_reducible exact LeO.refl _)
      | (with_reducible exact LeO.none _)
      | (with_reducible refine LeO.ite ?_ ?_)
      | (with_reducible refine LeO.bind ?_ (fun _ => ?_))
set_option maxHeartbeats 8000000 in
set_option maxRecDepth 100000 in
theorem laws_heldStringS.calls (k : Nat) (A0 : Option Addr) (c0 : Nat) (l0 : List ByteArray) (a1 : Int) (r : Int) (w : World) (hr0 : Kd.C Kd.string w A0 l0.length l0) (hc0 : l0.length ≤ c0) (h : laws_heldStringS.f k l0 a1 = some r) :
    Calls Try.prog 74 #[.slice A0 l0.length c0, .int .i64 a1] w fun e w' => e = .returned (.int .i64 r) ∧ Below w.heap.size w w' := by
  have HR0 := Aside0.mk hr0
  have HC0 := Aside0.mk hc0
  clear hr0 hc0
  have HB := Aside0.mk (Below.refl w.heap.size w)
  have H : (laws_heldStringS.l0 k l0 a1 0) = some r := h
  clear h
  have H' := Aside0.mk H
  clear H
  go_enter Try.func74, Try.ntmps74
  go_wp2
  go_loopg [1, 5] k (fun kq v1 v5 w' => ∃ (x1_1 : Int) (x5_1 : Int), v1 = .int .i64 x1_1 ∧ v5 = .int .i64 x5_1 ∧ Aside0 (laws_heldStringS.l0 kq l0 x1_1 x5_1 = some r) ∧ Aside0 (kq ≤ k) ∧ Aside0 (Below w.heap.size w w'))
  case atStart => exact ⟨(a1), (0), zrs, zrs, H', ⟨Nat.le_refl _⟩, ⟨zh HB⟩⟩
  case round =>
    clear H'
    obtain ⟨x1_1, x5_1, rfl, rfl, HA, HK1, HB⟩ := hrel
    cases gk with
    | zero => exact absurd HA.out (by simp [laws_heldStringS.l0])
    | succ k1 =>
      have H := HA.out
      clear HA
      simp only [laws_heldStringS.l0] at H
      by_cases c3 : x5_1 < (l0.length : Int)
      · rw [if_pos c3] at H
        have c3b0 : decide (x5_1 < (l0.length : Int)) = true := decide_eq_true c3
        clear c3
        by_cases c4 : 0 ≤ x5_1
        · rw [if_pos c4] at H
          have c4b0 : decide (0 ≤ x5_1) = true := decide_eq_true c4
          clear c4
          replace H := Option.bind_eq_some_iff.mp H
          obtain ⟨t544, A50, H⟩ := H
          try dsimp only at H
          have A5 := Aside0.mk A50
          clear A50
          by_cases c6 : (rdOf ByteArray.empty l0 x5_1).toList = t544.toList
          · rw [if_pos c6] at H
            have c6b0 : ((rdOf ByteArray.empty l0 x5_1).toList == t544.toList) = true := beq_iff_eq.mpr c6
            have c6b1 : ((rdOf ByteArray.empty l0 x5_1).toList != t544.toList) = false := bne_eq_false_iff_eq.mpr c6
            clear c6
            have H' := Aside0.mk H
            clear H
            try go_wp2
            replace HB := Aside0.mk (below_drew1 HB.out)
            have p543 : 0 ≤ (x5_1 : Int) := of_decide_eq_true zas
            have q543 : x5_1 < (l0.length : Int) := of_decide_eq_true zas
            obtain ⟨ad543, e543, hx543_0⟩ := Kd.at_string HR0.out x5_1 p543 q543
            have hw543_0 := hx543_0
            cases e543
            replace hx543_0 := zx HB hx543_0
            replace p543 := eq_true p543
            replace q543 := eq_true q543
            refine start_ (n := 7) (S := fun w' => w'.cell? (ad543.add (x5_1).toNat) = some (.string (rdOf ByteArray.empty l0 x5_1))) (ds := []) #[false, false, false, false, false, false, false] (by kernel_rfl) rfl rfl ((zx HB hw543_0)) (fun hHeld => ?_)
            generalize wr.drew = w7 at HB hx543_0 hHeld ⊢
            refine pure_ (i := 0) (N := some 12) (v := ?_) (a' := ?_) #[true, false, false, false, false, false, false] rfl rfl (by kernel_rfl) (fun _ _ _ h => h) (Or.inl ⟨by rfl, ?_⟩) ?_ ?_
            rotate_left
            · intro w'
              go_simp
              with_reducible rfl
            rotate_left
            · simp only [Act.put, List.setIfInBounds_toArray, List.set_cons_zero, List.set_cons_succ, i64_w, i32_w]
              rfl
            refine pure_ (i := 1) (N := some 13) (v := ?_) (a' := ?_) #[true, true, false, false, false, false, false] rfl rfl (by kernel_rfl) (fun _ _ _ h => h) (Or.inl ⟨by rfl, ?_⟩) ?_ ?_
            rotate_left
            · intro w'
              go_simp
              with_reducible rfl
            rotate_left
            · simp only [Act.put, List.setIfInBounds_toArray, List.set_cons_zero, List.set_cons_succ, i64_w, i32_w]
              rfl
            refine pure_ (i := 2) (N := some 14) (v := ?_) (a' := ?_) #[true, true, true, false, false, false, false] rfl rfl (by kernel_rfl) (fun _ _ _ h => h) (Or.inl ⟨by rfl, ?_⟩) ?_ ?_
            rotate_left
            · intro w'
              go_simp
              with_reducible rfl
            rotate_left
            · simp only [Act.put, List.setIfInBounds_toArray, List.set_cons_zero, List.set_cons_succ, i64_w, i32_w]
              rfl
            refine pure_ (i := 4) (N := some 16) (v := ?_) (a' := ?_) #[true, true, true, false, true, false, false] rfl rfl (by kernel_rfl) (fun _ _ _ h => h) (Or.inl ⟨by rfl, ?_⟩) ?_ ?_
            rotate_left
            · intro w'
              go_simp
              with_reducible rfl
            rotate_left
            · simp only [Act.put, List.setIfInBounds_toArray, List.set_cons_zero, List.set_cons_succ, i64_w, i32_w]
              rfl
            refine take_ (i := 3) (N := some 15) (v := ?_) (a' := ?_) #[true, true, true, true, true, false, false] rfl rfl (by kernel_rfl) (fun _ _ _ h => h) (Or.inl ⟨by rfl, ?_⟩) hHeld ?_ ?_
            rotate_left
            · intro w' s0
              go_simp
              with_reducible rfl
            rotate_left
            · simp only [Act.put, List.setIfInBounds_toArray, List.set_cons_zero, List.set_cons_succ, i64_w, i32_w]
              rfl
            refine one_ (i := 5) (N := some 17) #[true, true, true, true, true, true, false] rfl rfl (by kernel_rfl) (by decide) (fun K hK => ?_)
            refine goes_ Try.func60 (by kernel_rfl) rfl #[.int .i64 x1_1] (by rfl) rfl rfl zar ?_
            with_reducible refine (laws_markText.calls k1 x1_1 t544 _ A5.out).mono ?_
            rintro e w8 ⟨rfl, hb⟩
            refine ⟨_, rfl, ?_⟩
            replace HB := Aside0.mk (below_step (zh HB) hb)
            (try clear hb)
            (try clear hb2)
            (try clear hk)
            (try clear hi)
            refine hK.out _ _ ((zx HB hw543_0)) (fun hHeld => ?_)
            clear hK K
            refine norm_ (a' := ?_) ?_ ?_
            rotate_left
            · show Act.put _ (some 17) _ = _
              simp only [Act.put, List.setIfInBounds_toArray, List.set_cons_zero, List.set_cons_succ, i64_w, i32_w]
              rfl
            refine pure_ (i := 6) (N := some 18) (v := ?_) (a' := ?_) #[true, true, true, true, true, true, true] rfl rfl (by kernel_rfl) (fun _ _ _ h => h) (Or.inl ⟨by rfl, ?_⟩) ?_ ?_
            rotate_left
            · intro w'
              go_simp
              with_reducible rfl
            rotate_left
            · simp only [Act.put, List.setIfInBounds_toArray, List.set_cons_zero, List.set_cons_succ, i64_w, i32_w]
              rfl
            refine done_ (by kernel_rfl) ?_
            try go_wp2
            go_roundg k1
            case measure => have := HK1.out; omega
            case rel => exact ⟨(wrap64 (x1_1 + 1)), (wrap64 (x5_1 + 1)), zrs, zrs, H', ⟨by have := HK1.out; omega⟩, ⟨zh HB⟩⟩
          · rw [if_neg c6] at H
            have c6b0 : ((rdOf ByteArray.empty l0 x5_1).toList == t544.toList) = false := beq_eq_false_iff_ne.mpr c6
            have c6b1 : ((rdOf ByteArray.empty l0 x5_1).toList != t544.toList) = true := bne_iff_ne.mpr c6
            obtain rfl := Option.some.inj H
            try go_wp2
            replace HB := Aside0.mk (below_drew1 HB.out)
            have p543 : 0 ≤ (x5_1 : Int) := of_decide_eq_true zas
            have q543 : x5_1 < (l0.length : Int) := of_decide_eq_true zas
            obtain ⟨ad543, e543, hx543_0⟩ := Kd.at_string HR0.out x5_1 p543 q543
            have hw543_0 := hx543_0
            cases e543
            replace hx543_0 := zx HB hx543_0
            replace p543 := eq_true p543
            replace q543 := eq_true q543
            refine start_ (n := 7) (S := fun w' => w'.cell? (ad543.add (x5_1).toNat) = some (.string (rdOf ByteArray.empty l0 x5_1))) (ds := []) #[false, false, false, false, false, false, false] (by kernel_rfl) rfl rfl ((zx HB hw543_0)) (fun hHeld => ?_)
            generalize wr.drew = w10 at HB hx543_0 hHeld ⊢
            refine pure_ (i := 0) (N := some 12) (v := ?_) (a' := ?_) #[true, false, false, false, false, false, false] rfl rfl (by kernel_rfl) (fun _ _ _ h => h) (Or.inl ⟨by rfl, ?_⟩) ?_ ?_
            rotate_left
            · intro w'
              go_simp
              with_reducible rfl
            rotate_left
            · simp only [Act.put, List.setIfInBounds_toArray, List.set_cons_zero, List.set_cons_succ, i64_w, i32_w]
              rfl
            refine pure_ (i := 1) (N := some 13) (v := ?_) (a' := ?_) #[true, true, false, false, false, false, false] rfl rfl (by kernel_rfl) (fun _ _ _ h => h) (Or.inl ⟨by rfl, ?_⟩) ?_ ?_
            rotate_left
            · intro w'
              go_simp
              with_reducible rfl
            rotate_left
            · simp only [Act.put, List.setIfInBounds_toArray, List.set_cons_zero, List.set_cons_succ, i64_w, i32_w]
              rfl
            refine pure_ (i := 2) (N := some 14) (v := ?_) (a' := ?_) #[true, true, true, false, false, false, false] rfl rfl (by kernel_rfl) (fun _ _ _ h => h) (Or.inl ⟨by rfl, ?_⟩) ?_ ?_
            rotate_left
            · intro w'
              go_simp
              with_reducible rfl
            rotate_left
            · simp only [Act.put, List.setIfInBounds_toArray, List.set_cons_zero, List.set_cons_succ, i64_w, i32_w]
              rfl
            refine pure_ (i := 4) (N := some 16) (v := ?_) (a' := ?_) #[true, true, true, false, true, false, false] rfl rfl (by kernel_rfl) (fun _ _ _ h => h) (Or.inl ⟨by rfl, ?_⟩) ?_ ?_
            rotate_left
            · intro w'
              go_simp
              with_reducible rfl
            rotate_left
            · simp only [Act.put, List.setIfInBounds_toArray, List.set_cons_zero, List.set_cons_succ, i64_w, i32_w]
              rfl
            refine take_ (i := 3) (N := some 15) (v := ?_) (a' := ?_) #[true, true, true, true, true, false, false] rfl rfl (by kernel_rfl) (fun _ _ _ h => h) (Or.inl ⟨by rfl, ?_⟩) hHeld ?_ ?_
            rotate_left
            · intro w' s0
              go_simp
              with_reducible rfl
            rotate_left
            · simp only [Act.put, List.setIfInBounds_toArray, List.set_cons_zero, List.set_cons_succ, i64_w, i32_w]
              rfl
            refine one_ (i := 5) (N := some 17) #[true, true, true, true, true, true, false] rfl rfl (by kernel_rfl) (by decide) (fun K hK => ?_)
            refine goes_ Try.func60 (by kernel_rfl) rfl #[.int .i64 x1_1] (by rfl) rfl rfl zar ?_
            with_reducible refine (laws_markText.calls k1 x1_1 t544 _ A5.out).mono ?_
            rintro e w11 ⟨rfl, hb⟩
            refine ⟨_, rfl, ?_⟩
            replace HB := Aside0.mk (below_step (zh HB) hb)
            (try clear hb)
            (try clear hb2)
            (try clear hk)
            (try clear hi)
            refine hK.out _ _ ((zx HB hw543_0)) (fun hHeld => ?_)
            clear hK K
            refine norm_ (a' := ?_) ?_ ?_
            rotate_left
            · show Act.put _ (some 17) _ = _
              simp only [Act.put, List.setIfInBounds_toArray, List.set_cons_zero, List.set_cons_succ, i64_w, i32_w]
              rfl
            refine pure_ (i := 6) (N := some 18) (v := ?_) (a' := ?_) #[true, true, true, true, true, true, true] rfl rfl (by kernel_rfl) (fun _ _ _ h => h) (Or.inl ⟨by rfl, ?_⟩) ?_ ?_
            rotate_left
            · intro w'
              go_simp
              with_reducible rfl
            rotate_left
            · simp only [Act.put, List.setIfInBounds_toArray, List.set_cons_zero, List.set_cons_succ, i64_w, i32_w]
              rfl
            refine done_ (by kernel_rfl) ?_
            try go_wp2
            go_ret
            exact ⟨zre, zh HB⟩
        · rw [if_neg c4] at H
          exact absurd H (by simp)
      · rw [if_neg c3] at H
        have c3b0 : decide (x5_1 < (l0.length : Int)) = false := decide_eq_false c3
        clear c3
        obtain rfl := Option.some.inj H
        go_wp2
        go_ret
        exact ⟨zre, zh HB⟩

/-! ### laws_heldIntS: function 75 -/
def laws_heldIntS.l0 : Nat → List Int → Int → Int → Option (Int)
  | 0, _, _, _ => none
  | k + 1, x0, x1, x5 => if x5 < (x0.length : Int) then (if 0 ≤ x5 then (if (rd x0 x5) = x1 then (laws_heldIntS.l0 k x0 (wrap64 (x1 + 1)) (wrap64 (x5 + 1))) else (some (-1))) else (none)) else (some x1)
def laws_heldIntS.f (k : Nat) (l0 : List Int) (a1 : Int) : Option (Int) := laws_heldIntS.l0 k l0 a1 0
theorem laws_heldIntS.mono_l : ∀ k, (∀ y0 y1 y2, LeO (laws_heldIntS.l0 k y0 y1 y2) (laws_heldIntS.l0 (k + 1) y0 y1 y2))
  | 0 => fun _ _ _ r h => by simp [laws_heldIntS.l0] at h
  | k + 1 => by
    have ih0 := laws_heldIntS.mono_l k
    · intro y0 y1 y2
      unfold laws_heldIntS.l0
      repeat' first
      | (with_reducible exact ih0 _ _ _)
      | (with_reducible exact LeO.refl _)
      | (with_reducible exact LeO.none _)
      | (with_reducible refine LeO.ite ?_ ?_)
      | (with_reducible refine LeO.bind ?_ (fun _ => ?_))
theorem laws_heldIntS.mono : ∀ a0 a1 k, LeO (laws_heldIntS.f k a0 a1) (laws_heldIntS.f (k + 1) a0 a1) := by
  intro a0 a1 k
  have ih0 := laws_heldIntS.mono_l k
  unfold laws_heldIntS.f
  repeat' first
      | (with_reducible exact ih0 _ _ _)
      | (with_reducible exact LeO.refl _)
      | (with_reducible exact LeO.none _)
      | (with_reducible refine LeO.ite ?_ ?_)
      | (with_reducible refine LeO.bind ?_ (fun _ => ?_))
set_option maxHeartbeats 8000000 in
set_option maxRecDepth 100000 in
theorem laws_heldIntS.calls (k : Nat) (A0 : Option Addr) (c0 : Nat) (l0 : List Int) (a1 : Int) (r : Int) (w : World) (hr0 : Kd.C (Kd.int .i64) w A0 l0.length l0) (hc0 : l0.length ≤ c0) (h : laws_heldIntS.f k l0 a1 = some r) :
    Calls Try.prog 75 #[.slice A0 l0.length c0, .int .i64 a1] w fun e w' => e = .returned (.int .i64 r) ∧ Drawn0 w w' := by
  have HR0 := Aside0.mk hr0
  have HC0 := Aside0.mk hc0
  clear hr0 hc0
  have H : (laws_heldIntS.l0 k l0 a1 0) = some r := h
  clear h
  have H' := Aside0.mk H
  clear H
  go_enter Try.func75, Try.ntmps75
  go_wp2
  go_loopg [1, 5] k (fun kq v1 v5 w' => ∃ (x1_1 : Int) (x5_1 : Int), v1 = .int .i64 x1_1 ∧ v5 = .int .i64 x5_1 ∧ Aside0 (laws_heldIntS.l0 kq l0 x1_1 x5_1 = some r) ∧ Aside0 (kq ≤ k) ∧ Drawn0 w w')
  case atStart => exact ⟨(a1), (0), zrs, zrs, H', ⟨Nat.le_refl _⟩, by repeat (first | exact Drawn0.refl _ | apply Drawn0.step)⟩
  case round =>
    clear H'
    obtain ⟨x1_1, x5_1, rfl, rfl, HA, HK1, ⟨m1, rfl⟩⟩ := hrel
    cases gk with
    | zero => exact absurd HA.out (by simp [laws_heldIntS.l0])
    | succ k1 =>
      have H := HA.out
      clear HA
      simp only [laws_heldIntS.l0] at H
      by_cases c3 : x5_1 < (l0.length : Int)
      · rw [if_pos c3] at H
        have c3b0 : decide (x5_1 < (l0.length : Int)) = true := decide_eq_true c3
        clear c3
        by_cases c4 : 0 ≤ x5_1
        · rw [if_pos c4] at H
          have c4b0 : decide (0 ≤ x5_1) = true := decide_eq_true c4
          clear c4
          by_cases c5 : (rd l0 x5_1) = x1_1
          · rw [if_pos c5] at H
            have c5b0 : ((rd l0 x5_1) == x1_1) = true := beq_iff_eq.mpr c5
            have c5b1 : ((rd l0 x5_1) != x1_1) = false := bne_eq_false_iff_eq.mpr c5
            clear c5
            have H' := Aside0.mk H
            clear H
            have p545 : 0 ≤ (x5_1 : Int) := of_decide_eq_true zas
            have q545 : x5_1 < (l0.length : Int) := of_decide_eq_true zas
            obtain ⟨ad545, e545, hx545_0⟩ := Kd.at_int HR0.out x5_1 p545 q545
            cases e545
            replace p545 := eq_true p545
            replace q545 := eq_true q545
            go_wp2
            go_roundg k1
            case measure => have := HK1.out; omega
            case rel => exact ⟨(wrap64 (x1_1 + 1)), (wrap64 (x5_1 + 1)), zrs, zrs, H', ⟨by have := HK1.out; omega⟩, by repeat (first | exact Drawn0.refl _ | apply Drawn0.step)⟩
          · rw [if_neg c5] at H
            have c5b0 : ((rd l0 x5_1) == x1_1) = false := beq_eq_false_iff_ne.mpr c5
            have c5b1 : ((rd l0 x5_1) != x1_1) = true := bne_iff_ne.mpr c5
            obtain rfl := Option.some.inj H
            have p545 : 0 ≤ (x5_1 : Int) := of_decide_eq_true zas
            have q545 : x5_1 < (l0.length : Int) := of_decide_eq_true zas
            obtain ⟨ad545, e545, hx545_0⟩ := Kd.at_int HR0.out x5_1 p545 q545
            cases e545
            replace p545 := eq_true p545
            replace q545 := eq_true q545
            go_wp2
            go_ret
            exact ⟨zrs, by repeat (first | exact Drawn0.refl _ | apply Drawn0.step)⟩
        · rw [if_neg c4] at H
          exact absurd H (by simp)
      · rw [if_neg c3] at H
        have c3b0 : decide (x5_1 < (l0.length : Int)) = false := decide_eq_false c3
        clear c3
        obtain rfl := Option.some.inj H
        go_wp2
        go_ret
        exact ⟨zrs, by repeat (first | exact Drawn0.refl _ | apply Drawn0.step)⟩

end Go.Proofs.Ytnpdmleglcbobaa.XFnExactReadLog
