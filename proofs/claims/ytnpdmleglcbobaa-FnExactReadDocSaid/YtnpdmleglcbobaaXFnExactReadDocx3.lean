-- A text of this session: written by its own program (wip/x/xprint.py), which runs the kit's printer with contracts of its own.
import Derived.Test.YtnpdmleglcbobaaXFnExactReadDocx0
import Derived.Test.YtnpdmleglcbobaaXFnExactReadDocx2
namespace Go.Proofs.Ytnpdmleglcbobaa.XFnExactReadDoc
open Go.RowKit Go.Proofs.YtnpdmleglcbobaaW.PrintWords Go.Proofs.YtnpdmleglcbobaaW.PrintLast Go.Proofs.YtnpdmleglcbobaaW.PrintMore
attribute [local go_sem] max2_int min2_int max_two min_two max_three min_three max_four min_four   -- for this text's walks alone
set_option linter.unusedVariables false
set_option linter.unusedSimpArgs false

/-! ### laws_markValueS: function 42 -/
def laws_markValueS.l0 : Nat → List S66 → Int → Int → Option (Int × List S66)
  | 0, _, _, _ => none
  | k + 1, x0, x1, x5 => if x5 < (x0.length : Int) then ((laws_markText.f k x1).bind fun t => (if 0 ≤ x5 then ((laws_markStringS.f k (rd_T66 x0 x5).f1 (wrap64 (x1 + 1))).bind fun b1 => ((laws_markIntS.f k (rd_T66 x0 x5).f2 b1.1).bind fun b2 => (laws_markValueS.l0 k (x0.set (x5 : Int).toNat ⟨t, b1.2, b2.2⟩) b2.1 (wrap64 (x5 + 1))))) else (none))) else (some (x1, x0))
def laws_markValueS.f (k : Nat) (l0 : List S66) (a1 : Int) : Option (Int × List S66) := laws_markValueS.l0 k l0 a1 0
theorem laws_markValueS.mono_l : ∀ k, (∀ y0 y1 y2, LeO (laws_markValueS.l0 k y0 y1 y2) (laws_markValueS.l0 (k + 1) y0 y1 y2))
  | 0 => fun _ _ _ r h => by simp [laws_markValueS.l0] at h
  | k + 1 => by
    have ih0 := laws_markValueS.mono_l k
    intro y0 y1 y2
    unfold laws_markValueS.l0
    repeat' first
      | (with_reducible exact ih0 _ _ _)
      | (with_reducible exact laws_markText.mono _ _)
      | (with_reducible exact laws_markStringS.mono _ _ _)
      | (with_reducible exact laws_markIntS.mono _ _ _)
      | (with_reducible exact LeO.refl _)
      | (with_reducible exact LeO.none _)
      | (with_reducible refine LeO.ite ?_ ?_)
      | (with_reducible refine LeO.bind ?_ (fun _ => ?_))
      | exact ih0 _ _ _
      | exact laws_markText.mono _ _
      | exact laws_markStringS.mono _ _ _
      | exact laws_markIntS.mono _ _ _
      | exact LeO.none _
      | refine LeO.ite ?_ ?_
      | refine LeO.bind ?_ (fun _ => ?_)
theorem laws_markValueS.mono : ∀ a0 a1 k, LeO (laws_markValueS.f k a0 a1) (laws_markValueS.f (k + 1) a0 a1) := by
  intro a0 a1 k
  unfold laws_markValueS.f
  exact laws_markValueS.mono_l k _ _ _
section
variable {α : Type} {d : Kd α} {e base b e' : Nat} {W W2 : World} {ok okp : Nat → Prop} {v : Value} {xs : List α} {E' : List Nat}
/-- Rows of other types stay, where the blocks of some types alone were written. -/
theorem Kd.R_keptT (h : d.R e W base ok v xs) (hk : Kept W W2 (fun k => okp k ∧ b ≤ k ∧ k < W.heap.size ∧ ∃ q, q ∈ e' :: E' ∧ ∃ cells, W.heap[k]? = some (.cells cells q (0, 0)))) (ht : ∀ q, q ∈ e :: d.E → q ∉ e' :: E') : d.R e W2 base ok v xs := by
  refine Kd.R_mono (Kd.R_kept (Kd.R_bound h) hk (fun k h1 h2 => ?_)) (fun _ h => h.1)
  obtain ⟨_, _, _, q, hq, c, hc⟩ := h1
  obtain ⟨_, _, _, q', hq', c', hc'⟩ := h2
  rw [hc] at hc'
  injection hc' with hc'
  injection hc' with _ hc'
  subst hc'
  exact ht q hq hq'
theorem Kd.S_keptT (h : d.S e W base ok v xs) (hk : Kept W W2 (fun k => okp k ∧ b ≤ k ∧ k < W.heap.size ∧ ∃ q, q ∈ e' :: E' ∧ ∃ cells, W.heap[k]? = some (.cells cells q (0, 0)))) (ht : ∀ q, q ∈ e :: d.E → q ∉ e' :: E') : d.S e W2 base ok v xs := by
  obtain ⟨f, h⟩ := h
  exact ⟨f, Kd.R_keptT h hk ht⟩
/-- A number between two rows: what the elder one leads to lies below it, what the new one leads to from it on. -/
theorem Kd.pivot_ {W W1 : World} (_hb : Below W.heap.size W W1) : ∃ N, N = W.heap.size := ⟨_, rfl⟩
theorem Kd.S_elderN {W1 : World} {u : Value} {N : Nat} (h : d.S e W base ok v xs) (hbase : ∀ k, u.ownBlock = some k → W.heap.size ≤ k) (hb : Below W.heap.size W W1) (hN : N = W.heap.size) : d.S e W1 base (fun k => (ok k ∧ some k ≠ u.ownBlock) ∧ k < N) v xs :=
  Kd.S_mono (Kd.S_elder' (v := u) (Kd.S_bound h) hbase hb) (fun k hk => ⟨⟨hk.1.1, hk.2⟩, by have h2 := hk.1.2.2.1; omega⟩)
theorem Kd.S_geN {W1 : World} {N : Nat} (h : d.S e W1 W.heap.size ok v xs) (hN : N = W.heap.size) : d.S e W1 W.heap.size (fun k => ok k ∧ N ≤ k) v xs :=
  Kd.S_mono (Kd.S_bound h) (fun k hk => ⟨hk.1, by have h2 := hk.2.1; omega⟩)
theorem blk_keptT {g t : Nat} {cs : Array Value} (h : W.heap[g]? = some (.cells cs t (0, 0))) (hk : Kept W W2 (fun k => okp k ∧ b ≤ k ∧ k < W.heap.size ∧ ∃ q, q ∈ e' :: E' ∧ ∃ cells, W.heap[k]? = some (.cells cells q (0, 0)))) (ht : t ∉ e' :: E') : W2.heap[g]? = some (.cells cs t (0, 0)) := by
  refine blk_kept h hk (fun h2 => ?_)
  obtain ⟨_, _, _, q', hq', c', hc'⟩ := h2
  rw [h] at hc'
  injection hc' with hc'
  injection hc' with _ hc'
  subst hc'
  exact ht hq'
end
section
variable {W : World} {base g n cap : Nat} {P : Nat → Prop} {xs : List S66}
theorem laws_markValueS.len (h : Kd.S k66 66 W base P (.slice (some ⟨g, 0, none⟩) n cap) xs) : n = xs.length := (Kd.R_reads' (Kd.S_R h)).1
/-- An element's text stored. -/
theorem laws_markValueS.f0 (h : Kd.S k66 66 W base P (.slice (some ⟨g, 0, none⟩) n cap) xs) (i : Int) (h0 : 0 ≤ i) (h1 : i < n) :
    W.cell? ⟨g, i.toNat * 3, none⟩ = some (.string (rd_T66 xs i).f0) ∧ W.frozen? ⟨g, i.toNat * 3, none⟩ = false ∧ P g ∧ ∀ t : ByteArray, Kd.S k66 66 (W.setCell ⟨g, i.toNat * 3, none⟩ (.string t)) base P (.slice (some ⟨g, 0, none⟩) n cap) (xs.set i.toNat ⟨t, (rd_T66 xs i).f1, (rd_T66 xs i).f2⟩) ∧ W.grownBy (W.setCell ⟨g, i.toNat * 3, none⟩ (.string t)) (some g) := by
  have hP : P g := (Kd.S_R h).1 g rfl
  obtain ⟨oki, ce, hcl, hM, hcc, hfr, hoki, hH⟩ := Kd.S_elem h z66 i h0 h1
  obtain ⟨v1, v2, rfl, g1, g2⟩ := k66_openM hM
  refine ⟨hcc 0 _ rfl, hfr 0, hP, fun t => ?_⟩
  exact Kd.S_seg0 hH h0 h1 (seg := [.string t]) (j := 0) (show 1 ≤ 3 from by decide) (x' := ⟨t, (rd_T66 xs i).f1, (rd_T66 xs i).f2⟩) (k66_mkM _ _ _ ⟨t, (rd_T66 xs i).f1, (rd_T66 xs i).f2⟩ g1 g2) (fun _ hk => hk)
theorem laws_markValueS.ne {d1 d2 : Nat} {α β : Type} {k1 : Kd α} {k2 : Kd β} {ok : Nat → Prop} {v1 v2 : Value} {l1 : List α} {l2 : List β} (g1 : k1.R d1 W base ok v1 l1) (g2 : k2.R d2 W base ok v2 l2) (hd : d1 ≠ d2) (k : Nat) (e1 : some k = v1.ownBlock) (e2 : some k = v2.ownBlock) : False := by
  obtain ⟨c1, h1⟩ := Kd.R_typed g1 k e1.symm
  obtain ⟨c2, h2⟩ := Kd.R_typed g2 k e2.symm
  rw [h1] at h2
  injection h2 with h2
  injection h2 with _ h2
  exact hd h2
/-- An element's texts written. -/
theorem laws_markValueS.f1 (h : Kd.S k66 66 W base P (.slice (some ⟨g, 0, none⟩) n cap) xs) (i : Int) (h0 : 0 ≤ i) (h1 : i < n) :
    ∃ A1 c1, W.cell? ⟨g, i.toNat * 3 + 1, none⟩ = some (.slice A1 (rd_T66 xs i).f1.length c1) ∧ Kd.R Kd.string 9 W base (fun k => some k = (Value.slice A1 (rd_T66 xs i).f1.length c1).ownBlock) (.slice A1 (rd_T66 xs i).f1.length c1) (rd_T66 xs i).f1 ∧ (∀ k, some k = (Value.slice A1 (rd_T66 xs i).f1.length c1).ownBlock → P k) ∧
      ∀ (W2 : World) (ok2 : Nat → Prop) (ys : List ByteArray), Kd.R Kd.string 9 W2 base ok2 (.slice A1 (rd_T66 xs i).f1.length c1) ys → Kept W W2 (fun k => some k = (Value.slice A1 (rd_T66 xs i).f1.length c1).ownBlock) → Kd.S k66 66 W2 base P (.slice (some ⟨g, 0, none⟩) n cap) (xs.set i.toNat ⟨(rd_T66 xs i).f0, ys, (rd_T66 xs i).f2⟩) := by
  obtain ⟨oki, ce, hcl, hM, hcc, hfr, hoki, hH⟩ := Kd.S_elem h z66 i h0 h1
  obtain ⟨v1, v2, rfl, g1, g2⟩ := k66_openM hM
  have hx : W.cell? ⟨g, i.toNat * 3 + 1, none⟩ = some v1 := hcc 1 _ rfl
  obtain ⟨A1, c1, rfl⟩ := Kd.R_slice g1
  refine ⟨A1, c1, hx, Kd.R_tight rfl g1, fun k e => (hoki k (g1.1 k e.symm)).1, fun W2 ok2 ys hr hk => ?_⟩
  have g2' := Kd.R_mono (Kd.R_kept (Kd.R_tight rfl g2) hk (fun k e2 e1 => laws_markValueS.ne g1 g2 (by decide) k e1 e2)) (fun k e => g2.1 k e.symm)
  have g1' := Kd.R_reok rfl hr (fun k e => g1.1 k e)
  exact Kd.H_back (Kd.H_step hH (fun k _ hn hlt => hk.2 k hlt (fun e => hn (g1.1 k e.symm)))) (k66_mkM W2 base oki ⟨(rd_T66 xs i).f0, ys, (rd_T66 xs i).f2⟩ g1' g2') (fun _ hk => hk)
/-- An element's numbers written. -/
theorem laws_markValueS.f2 (h : Kd.S k66 66 W base P (.slice (some ⟨g, 0, none⟩) n cap) xs) (i : Int) (h0 : 0 ≤ i) (h1 : i < n) :
    ∃ A1 c1, W.cell? ⟨g, i.toNat * 3 + 2, none⟩ = some (.slice A1 (rd_T66 xs i).f2.length c1) ∧ Kd.R (Kd.int .i64) 3 W base (fun k => some k = (Value.slice A1 (rd_T66 xs i).f2.length c1).ownBlock) (.slice A1 (rd_T66 xs i).f2.length c1) (rd_T66 xs i).f2 ∧ (∀ k, some k = (Value.slice A1 (rd_T66 xs i).f2.length c1).ownBlock → P k) ∧
      ∀ (W2 : World) (ok2 : Nat → Prop) (ys : List Int), Kd.R (Kd.int .i64) 3 W2 base ok2 (.slice A1 (rd_T66 xs i).f2.length c1) ys → Kept W W2 (fun k => some k = (Value.slice A1 (rd_T66 xs i).f2.length c1).ownBlock) → Kd.S k66 66 W2 base P (.slice (some ⟨g, 0, none⟩) n cap) (xs.set i.toNat ⟨(rd_T66 xs i).f0, (rd_T66 xs i).f1, ys⟩) := by
  obtain ⟨oki, ce, hcl, hM, hcc, hfr, hoki, hH⟩ := Kd.S_elem h z66 i h0 h1
  obtain ⟨v1, v2, rfl, g1, g2⟩ := k66_openM hM
  have hx : W.cell? ⟨g, i.toNat * 3 + 2, none⟩ = some v2 := hcc 2 _ rfl
  obtain ⟨A1, c1, rfl⟩ := Kd.R_slice g2
  refine ⟨A1, c1, hx, Kd.R_tight rfl g2, fun k e => (hoki k (g2.1 k e.symm)).1, fun W2 ok2 ys hr hk => ?_⟩
  have g1' := Kd.R_mono (Kd.R_kept (Kd.R_tight rfl g1) hk (fun k e1 e2 => laws_markValueS.ne g1 g2 (by decide) k e1 e2)) (fun k e => g1.1 k e.symm)
  have g2' := Kd.R_reok rfl hr (fun k e => g2.1 k e)
  exact Kd.H_back (Kd.H_step hH (fun k _ hn hlt => hk.2 k hlt (fun e => hn (g2.1 k e.symm)))) (k66_mkM W2 base oki ⟨(rd_T66 xs i).f0, (rd_T66 xs i).f1, ys⟩ g1' g2') (fun _ hk => hk)
theorem laws_markValueS.rdset (xs : List S66) (i : Int) (v : S66) (h0 : 0 ≤ i) (h1 : i < (xs.length : Int)) : rd_T66 (xs.set i.toNat v) i = v := by
  unfold rd_T66
  rw [List.getD_eq_getElem?_getD, List.getElem?_set_self (by omega)]; rfl
end
set_option maxHeartbeats 8000000 in
set_option maxRecDepth 100000 in
theorem laws_markValueS.calls (k : Nat) (P0_ : Nat → Prop) (u9000_ : Value) (l0 : List S66) (a1 : Int) (r1 : Int) (r2 : List S66) (w0 w : World) (hB : Below w0.heap.size w0 w) (ho0 : Kd.S k66 66 w w0.heap.size P0_ u9000_ l0) (h : laws_markValueS.f k l0 a1 = some (r1, r2)) :
    Calls Try.prog 42 #[u9000_, .int .i64 a1] w fun e w' => e = .returned (.int .i64 r1) ∧ Kd.S k66 66 w' w0.heap.size (fun k_ => P0_ k_) u9000_ r2 ∧ Below w0.heap.size w0 w' ∧ Kept w w' (fun k_ => P0_ k_) := by
  have HO0 := Aside0.mk ho0
  have HK := Aside0.mk (Kept.refl w (fun k_ => P0_ k_))
  have HB := Aside0.mk hB
  clear hB ho0
  have H' := Aside0.mk (show laws_markValueS.l0 k l0 a1 0 = some (r1, r2) from h)
  clear h
  go_enter Try.func42, Try.ntmps42
  go_wp2
  go_loopg [1, 5] k (fun kq v1 v5 w' => ∃ (x0_1 : List S66) (x1_1 : Int) (x5_1 : Int), v1 = .int .i64 x1_1 ∧ v5 = .int .i64 x5_1 ∧ Aside0 (laws_markValueS.l0 kq x0_1 x1_1 x5_1 = some (r1, r2)) ∧ Aside0 (kq ≤ k) ∧ Aside0 (Kd.S k66 66 w' w0.heap.size (fun k_ => P0_ k_) u9000_ x0_1) ∧ Aside0 (Kept w w' (fun k_ => P0_ k_)) ∧ Aside0 (Below w0.heap.size w0 w'))
  case atStart => exact ⟨l0, a1, 0, by first | rfl | (simp; done) | (simp [*]; done), by first | rfl | (simp; done) | (simp [*]; done), H', ⟨Nat.le_refl _⟩, ⟨HO0.out⟩, ⟨HK.out⟩, ⟨HB.out⟩⟩
  case round =>
    clear H'
    obtain ⟨x0_1, x1_1, x5_1, rfl, rfl, HA, HK1, HO_0, HK, HB⟩ := hrel
    cases gk with
    | zero => exact absurd HA.out (by simp [laws_markValueS.l0])
    | succ k1 =>
      have H := HA.out
      clear HA
      simp only [laws_markValueS.l0] at H
      by_cases c3 : x5_1 < (x0_1.length : Int)
      · rw [if_pos c3] at H
        have c3b0 : decide (x5_1 < (x0_1.length : Int)) = true := decide_eq_true c3
        replace H := Option.bind_eq_some_iff.mp H
        obtain ⟨t256, A40, H⟩ := H
        have A4 := Aside0.mk A40
        clear A40
        by_cases c5 : 0 ≤ x5_1
        · rw [if_pos c5] at H
          replace H := Option.bind_eq_some_iff.mp H
          obtain ⟨⟨b1, ys1⟩, A50, H⟩ := H
          replace H := Option.bind_eq_some_iff.mp H
          obtain ⟨⟨b2, ys2⟩, A60, H⟩ := H
          simp only at A50 A60 H
          have A5 := Aside0.mk A50
          have A6 := Aside0.mk A60
          have H' := Aside0.mk H
          clear H A50 A60
          obtain ⟨g, cap, rfl, hgb, hgl, cells, hgc⟩ := Kd.S_form HO_0.out (by omega)
          clear hgl hgc cells
          have C3 := Aside0.mk c3
          have C5 := Aside0.mk c5
          have p3 := eq_true c3
          have p5 := eq_true c5
          have HGB := Aside0.mk hgb
          clear c3 c5 hgb
          go_upto_region 5 with (first
            | (go_at_call 60; (with_reducible refine (laws_markText.calls k1 x1_1 t256 _ A4.out).mono ?_); rintro e w8 ⟨rfl, hb⟩
               have HO8 := Aside0.mk (Kd.S_below HO_0.out hb)
               have HK8 := Aside0.mk (Kept.below (S := (fun k_ => P0_ k_)) HK.out hb)
               have HB8 := Aside0.mk (below_step HB.out hb)
               have hq8 := laws_markValueS.f0 HO8.out x5_1 C5.out C3.out
               have HQ8 := Aside0.mk hq8
               have hx8 := hq8.1
               have hf8 := hq8.2.1
               clear HO_0 HK HB hb hq8))
          obtain ⟨w9, hw9⟩ : ∃ w9, w9 = w8.setCell { block := g, off := x5_1.toNat * 3 } (Value.string t256) := ⟨_, rfl⟩
          rw [← hw9]
          have HO9 := Aside0.mk (show Kd.S k66 66 w9 w0.heap.size (fun k_ => P0_ k_) (.slice (some ⟨g, 0, none⟩) x0_1.length cap) (x0_1.set x5_1.toNat ⟨t256, (rd_T66 x0_1 x5_1).f1, (rd_T66 x0_1 x5_1).f2⟩) from by rw [hw9]; exact (HQ8.out.2.2.2 t256).1)
          have HK9 := Aside0.mk (show Kept w w9 (fun k_ => P0_ k_) from by rw [hw9]; exact Kept.setCell HK8.out (.inl HQ8.out.2.2.1) _)
          have HB9 := Aside0.mk (show Below w0.heap.size w0 w9 from by rw [hw9]; exact HB8.out.setCell HGB.out _)
          clear hw9 hx8 hf8 HO8 HK8 HB8 HQ8
          have hset := laws_markValueS.rdset x0_1 x5_1 ⟨t256, (rd_T66 x0_1 x5_1).f1, (rd_T66 x0_1 x5_1).f2⟩ C5.out C3.out
          obtain ⟨A1, c1, hc1, hr1, hp1, hs1⟩ := laws_markValueS.f1 HO9.out x5_1 C5.out C3.out
          rw [hset] at hc1 hr1 hp1 hs1
          simp only [List.set_set] at hs1
          have HR1 := Aside0.mk hr1
          have HP1 := Aside0.mk hp1
          have HS1 := Aside0.mk hs1
          clear hset hr1 hp1 hs1
          have hm1 := fun W => laws_markStringS.calls k1 (fun k => some k = (Value.slice A1 (rd_T66 x0_1 x5_1).f1.length c1).ownBlock) (.slice A1 (rd_T66 x0_1 x5_1).f1.length c1) (rd_T66 x0_1 x5_1).f1 (wrap64 (x1_1 + 1)) b1 ys1 w0 W
          go_upto_region 7 with (first
            | (go_at_call 67; (with_reducible refine (hm1 _ HB9.out HR1.out A5.out).mono ?_); rintro e w10 ⟨rfl, hy, hb, hk⟩
               have HO10 := Aside0.mk (HS1.out _ _ _ hy hk)
               have HK10 := Aside0.mk (Kept.then_ HK9.out hk (fun k_ h_ => .inl (HP1.out k_ h_)))
               have HB10 := Aside0.mk hb
               clear hy hb hk HO9 HK9 HB9 HS1 HP1 HR1))
          clear hm1 hc1
          have hset := laws_markValueS.rdset x0_1 x5_1 ⟨t256, ys1, (rd_T66 x0_1 x5_1).f2⟩ C5.out C3.out
          obtain ⟨A2, c2, hc2, hr2, hp2, hs2⟩ := laws_markValueS.f2 HO10.out x5_1 C5.out C3.out
          rw [hset] at hc2 hr2 hp2 hs2
          simp only [List.set_set] at hs2
          have HR2 := Aside0.mk hr2
          have HP2 := Aside0.mk hp2
          have HS2 := Aside0.mk hs2
          clear hset hr2 hp2 hs2
          have hm2 := fun W => laws_markIntS.calls k1 (fun k => some k = (Value.slice A2 (rd_T66 x0_1 x5_1).f2.length c2).ownBlock) (.slice A2 (rd_T66 x0_1 x5_1).f2.length c2) (rd_T66 x0_1 x5_1).f2 b1 b2 ys2 w0 W
          go_wp2_with (first
            | (go_at_call 68; (with_reducible refine (hm2 _ HB10.out HR2.out A6.out).mono ?_); rintro e w11 ⟨rfl, hy, hb, hk⟩
               have HO11 := Aside0.mk (HS2.out _ _ _ hy hk)
               have HK11 := Aside0.mk (Kept.then_ HK10.out hk (fun k_ h_ => .inl (HP2.out k_ h_)))
               have HB11 := Aside0.mk hb
               clear hy hb hk HO10 HK10 HB10 HS2 HP2 HR2))
          go_roundg k1
          case measure => have := HK1.out; omega
          case rel => exact ⟨_, b2, wrap64 (x5_1 + 1), by first | rfl | (simp; done) | (simp [*]; done), by first | rfl | (simp; done) | (simp [*]; done), H', ⟨by have := HK1.out; omega⟩, HO11, HK11, HB11⟩
        · rw [if_neg c5] at H
          exact absurd H (by simp)
      · rw [if_neg c3] at H
        have c3b0 : decide (x5_1 < (x0_1.length : Int)) = false := decide_eq_false c3
        clear c3
        simp only [Option.some.injEq, Prod.mk.injEq] at H
        obtain ⟨rfl, rfl⟩ := H
        obtain ⟨Ao11, co11, eo11⟩ := Kd.S_slice HO_0.out
        subst eo11
        go_wp2
        go_ret
        exact ⟨zre, HO_0.out, HB.out, HK.out⟩

/-! ### laws_markDoc: function 14 -/
def laws_markDoc.f (k : Nat) (a0_0 : ByteArray) (l0_1 : List S66) (a1 : Int) : Option (Int × List S66) := (laws_markValueS.f k l0_1 a1).bind fun t => some (t.1, t.2)
theorem laws_markDoc.mono : ∀ a0 a1 a2 k, LeO (laws_markDoc.f k a0 a1 a2) (laws_markDoc.f (k + 1) a0 a1 a2) := by
  intro a0 a1 a2 k
  unfold laws_markDoc.f
  exact LeO.bind (laws_markValueS.mono _ _ _) (fun _ => LeO.refl _)
set_option maxHeartbeats 8000000 in
set_option maxRecDepth 100000 in
theorem laws_markDoc.calls (k : Nat) (a0_0 : ByteArray) (P0_1_ : Nat → Prop) (u9001_ : Value) (l0_1 : List S66) (a1 : Int) (r1 : Int) (r2 : List S66) (w0 w : World) (hB : Below w0.heap.size w0 w) (ho0_1 : Kd.S k66 66 w w0.heap.size P0_1_ u9001_ l0_1) (h : laws_markDoc.f k a0_0 l0_1 a1 = some (r1, r2)) :
    Calls Try.prog 14 #[.agg #[.string a0_0, u9001_], .int .i64 a1] w fun e w' => e = .returned (.int .i64 r1) ∧ Kd.S k66 66 w' w0.heap.size (fun k_ => P0_1_ k_) u9001_ r2 ∧ Below w0.heap.size w0 w' ∧ Kept w w' (fun k_ => P0_1_ k_) := by
  have h2 : laws_markValueS.f k l0_1 a1 = some (r1, r2) := by
    unfold laws_markDoc.f at h
    obtain ⟨⟨x, y⟩, hx, hy⟩ := Option.bind_eq_some_iff.mp h
    simp only [Option.some.injEq, Prod.mk.injEq] at hy
    obtain ⟨rfl, rfl⟩ := hy
    exact hx
  clear h
  have hm := fun W => laws_markValueS.calls k P0_1_ u9001_ l0_1 a1 r1 r2 w0 W
  have HH := Aside0.mk h2
  have HO := Aside0.mk ho0_1
  have HB := Aside0.mk hB
  have HL := Aside0.mk hB.size
  obtain ⟨A1, c1, rfl⟩ := Kd.S_slice ho0_1
  clear h2 ho0_1 hB
  go_enter Try.func14, Try.ntmps14
  go_wp2_with (first | (go_at_call 42; refine (hm _ (below_alloc HB.out _) (Kd.S_alloc HO.out _) HH.out).mono ?_; rintro e w3 ⟨rfl, hy, hb, hk⟩; have HY := Aside0.mk hy; have HB2 := Aside0.mk hb; have HK2 := Aside0.mk (Kept.then_ (Kept.alloc (Kept.refl w (fun k_ => P0_1_ k_)) _) hk (fun _ h_ => .inl h_)); clear hy hb hk))
  go_ret
  exact ⟨by first | rfl | (simp [errW_none, errW_some] <;> rfl), HY.out, HB2.out, HK2.out⟩

/-! ### laws_markByteS: function 15 -/
def laws_markByteS.l0 : Nat → List Int → Int → Int → Option (Int × List Int)
  | 0, _, _, _ => none
  | k + 1, x0, x1, x5 => if x5 < (x0.length : Int) then (if 0 ≤ x5 then (laws_markByteS.l0 k (x0.set (x5 : Int).toNat ((x1) % 256)) (wrap64 (x1 + 1)) (wrap64 (x5 + 1))) else (none)) else (some (x1, x0))
def laws_markByteS.f (k : Nat) (l0 : List Int) (a1 : Int) : Option (Int × List Int) := laws_markByteS.l0 k l0 a1 0
theorem laws_markByteS.mono_l : ∀ k, (∀ y0 y1 y2, LeO (laws_markByteS.l0 k y0 y1 y2) (laws_markByteS.l0 (k + 1) y0 y1 y2))
  | 0 => fun _ _ _ r h => by simp [laws_markByteS.l0] at h
  | k + 1 => by
    have ih0 := laws_markByteS.mono_l k
    · intro y0 y1 y2
      unfold laws_markByteS.l0
      repeat' first
      | (with_reducible exact ih0 _ _ _)
      | (with_reducible exact LeO.refl _)
      | (with_reducible exact LeO.none _)
      | (with_reducible refine LeO.ite ?_ ?_)
      | (with_reducible refine LeO.bind ?_ (fun _ => ?_))
      | exact ih0 _ _ _
      | exact LeO.none _
      | refine LeO.ite ?_ ?_
      | refine LeO.bind ?_ (fun _ => ?_)
theorem laws_markByteS.mono : ∀ a0 a1 k, LeO (laws_markByteS.f k a0 a1) (laws_markByteS.f (k + 1) a0 a1) := by
  intro a0 a1 k
  have ih0 := laws_markByteS.mono_l k
  unfold laws_markByteS.f
  repeat' first
      | (with_reducible exact ih0 _ _ _)
      | (with_reducible exact LeO.refl _)
      | (with_reducible exact LeO.none _)
      | (with_reducible refine LeO.ite ?_ ?_)
      | (with_reducible refine LeO.bind ?_ (fun _ => ?_))
      | exact ih0 _ _ _
      | exact LeO.none _
      | refine LeO.ite ?_ ?_
      | refine LeO.bind ?_ (fun _ => ?_)
set_option maxHeartbeats 8000000 in
set_option maxRecDepth 100000 in
theorem laws_markByteS.calls (k : Nat) (P0_ : Nat → Prop) (u9000_ : Value) (l0 : List Int) (a1 : Int) (r1 : Int) (r2 : List Int) (w0 w : World) (hB : Below w0.heap.size w0 w) (ho0 : Kd.R (Kd.int .u8) 5 w w0.heap.size P0_ u9000_ l0) (h : laws_markByteS.f k l0 a1 = some (r1, r2)) :
    Calls Try.prog 15 #[u9000_, .int .i64 a1] w fun e w' => e = .returned (.int .i64 r1) ∧ Kd.R (Kd.int .u8) 5 w' w0.heap.size (fun k_ => (P0_ k_ ∨ w.heap.size ≤ k_)) u9000_ r2 ∧ Below w0.heap.size w0 w' ∧ Kept w w' (fun k_ => P0_ k_) := by
  have HO0 := Aside0.mk (show Kd.R (Kd.int .u8) 5 w w0.heap.size (fun k_ => (P0_ k_ ∨ w.heap.size ≤ k_)) u9000_ l0 from Kd.R_mono ho0 (fun k_ hk => (.inl hk)))
  have HK := Aside0.mk (Kept.refl w (fun k_ => P0_ k_))
  have HW0 := Aside0.mk hB.size
  have HB := Aside0.mk hB
  clear hB
  have H : (laws_markByteS.l0 k l0 a1 0) = some (r1, r2) := h
  clear h
  have H' := Aside0.mk H
  clear H
  go_enter Try.func15, Try.ntmps15
  go_wp2
  go_loopg [1, 5] k (fun kq v1 v5 w' => ∃ (x0_1 : List Int) (x1_1 : Int) (x5_1 : Int), v1 = .int .i64 x1_1 ∧ v5 = .int .i64 x5_1 ∧ Aside0 (laws_markByteS.l0 kq x0_1 x1_1 x5_1 = some (r1, r2)) ∧ Aside0 (kq ≤ k) ∧ Aside0 (Kd.R (Kd.int .u8) 5 w' w0.heap.size (fun k_ => (P0_ k_ ∨ w.heap.size ≤ k_)) u9000_ x0_1) ∧ Aside0 (Kept w w' (fun k_ => P0_ k_)) ∧ Aside0 (Below w0.heap.size w0 w'))
  case atStart => exact ⟨(l0), (a1), (0), (by first | rfl | (simp; done) | (simp [*]; done)), (by first | rfl | (simp; done) | (simp [*]; done)), H', ⟨Nat.le_refl _⟩, ⟨zr HO0⟩, ⟨by repeat (first | (with_reducible first | exact HK.out | apply Kept.alloc | apply Kept.drewN | apply Kept.drew) | exact HK.out)⟩, ⟨zh HB⟩⟩
  case round =>
    clear H'
    try clear c1
    try clear p2
    obtain ⟨x0_1, x1_1, x5_1, rfl, rfl, HA, HK1, HO_0, HK, HB⟩ := hrel
    cases gk with
    | zero => exact absurd HA.out (by simp [laws_markByteS.l0])
    | succ k1 =>
      have H := HA.out
      clear HA
      simp only [laws_markByteS.l0] at H
      by_cases c3 : x5_1 < (x0_1.length : Int)
      · rw [if_pos c3] at H
        have c3b0 : decide (x5_1 < (x0_1.length : Int)) = true := decide_eq_true c3
        clear c3
        by_cases c4 : 0 ≤ x5_1
        · rw [if_pos c4] at H
          have c4b0 : decide (0 ≤ x5_1) = true := decide_eq_true c4
          clear c4
          obtain ⟨y123, hy123⟩ : ∃ y_ : List Int, y_ = (x0_1.set (x5_1 : Int).toNat ((x1_1) % 256)) := ⟨_, rfl⟩
          replace H : (laws_markByteS.l0 k1 y123 (wrap64 (x1_1 + 1)) (wrap64 (x5_1 + 1))) = some (r1, r2) := by first | (rw [hy123]; with_reducible exact H) | (have H2_ := (Option.bind_some _ _).symm.trans H; rw [hy123]; with_reducible exact H2_) | (have H2_ := (Option.bind_some _ _).symm.trans H; with_reducible exact H2_) | with_reducible exact H | (rw [hy123]; exact H) | exact H
          have Ny123 := Aside0.mk hy123
          clear hy123
          have H' := Aside0.mk H
          clear H
          obtain ⟨Ao6, co6, eo6⟩ := Kd.R_slice HO_0.out
          subst eo6
          have p5 : 0 ≤ (x5_1 : Int) := of_decide_eq_true zas
          have q5 : (x5_1 : Int) < ((x0_1.length : Int) : Int) := of_decide_eq_true zas
          obtain ⟨go5, co5, eo5, gb5, gl5, cl5, HG5⟩ := Kd.R_form HO_0.out (by omega)
          (first | cases eo5 | (injection eo5 with ea_ en_ ec_; (first | subst ea_ | (injection ea_ with ea_; subst ea_)); subst ec_; clear en_))
          have GB5 := Aside0.mk gb5
          have GG5 := Aside0.mk HG5
          clear gb5 gl5 HG5
          have HMgo5 := Aside0.mk (show (P0_ go5 ∨ w.heap.size ≤ go5) from (HO_0.out.1 _ rfl))
          obtain ⟨hx5_0, hf5_0⟩ := Kd.R_celln 0 HO_0.out (x5_1 : Int) p5 q5
          replace p5 := eq_true p5
          replace q5 := eq_true q5
          have HP7 := Kd.R_putg HO_0.out (x5_1 : Int) ((x1_1) % 256)
          go_wp2_with (first | ((with_reducible refine gate_store (t := 5) (p := 16) rfl ?_); refine store_event (t := 5) (p := 16) (v := ?vo_w8) (w1 := (wr.setCell ⟨go5, (x5_1 : Int).toNat, none⟩ (.int .u8 ((x1_1) % 256)))) ?hg ?ho ?hn ?hr ?_; (case ho => rfl); (case hg => rfl); (case hn => rfl); (case hr => first | (go_simp; done) | (go_simp; rfl)); intro w8 hw; have hg : wr.grownBy w8 (some go5) := (by rw [hw]; exact HP7.2); have hp_ : Kd.R (Kd.int .u8) 5 w8 w0.heap.size (fun k_ => (P0_ k_ ∨ w.heap.size ≤ k_)) (.slice (some ⟨go5, 0, none⟩) x0_1.length co6) y123 := (by rw [hw, Ny123.out]; exact HP7.1); clear HP7; have n0_ := Aside0.mk (hp_); have n1_ := Aside0.mk ((by rw [hw]; exact below_set (HB.out) GB5.out : Below w0.heap.size w0 w8)); have n2_ := Aside0.mk (Kept.of_grown (S := (fun k_ => P0_ k_)) hg (by repeat (first | (with_reducible first | exact HK.out | apply Kept.alloc | apply Kept.drewN | apply Kept.drew) | exact HK.out)) (fun k_ e_ => (HO_0.out.1 k_ e_))); clear HO_0; clear HB; clear HK; have HO_0 := n0_; have HB := n1_; have HK := n2_; clear n0_ n1_ n2_; clear hg hw hp_))
          go_roundg k1
          case measure => have := HK1.out; omega
          case rel => exact ⟨(y123), (wrap64 (x1_1 + 1)), (wrap64 (x5_1 + 1)), (by first | rfl | (simp; done) | (simp [*]; done)), (by first | rfl | (simp; done) | (simp [*]; done)), H', ⟨by have := HK1.out; omega⟩, ⟨zr HO_0⟩, ⟨by repeat (first | (with_reducible first | exact HK.out | apply Kept.alloc | apply Kept.drewN | apply Kept.drew) | exact HK.out)⟩, ⟨zh HB⟩⟩
        · rw [if_neg c4] at H
          exact absurd H (by simp)
      · rw [if_neg c3] at H
        have c3b0 : decide (x5_1 < (x0_1.length : Int)) = false := decide_eq_false c3
        clear c3
        simp only [Option.some.injEq, Prod.mk.injEq] at H
        obtain ⟨rfl, rfl⟩ := H
        obtain ⟨Ao9, co9, eo9⟩ := Kd.R_slice HO_0.out
        subst eo9
        go_wp2
        go_ret
        exact ⟨zre, by (with_reducible repeat (first | apply Kd.R_alloc | apply Kd.R_drewN | apply Kd.R_drew)); exact HO_0.out, zh HB, by repeat (first | (with_reducible first | exact HK.out | apply Kept.alloc | apply Kept.drewN | apply Kept.drew) | exact HK.out)⟩

/-! ### spec_l03Get: function 89 -/
mutual
def spec_l03Get.l0 : Nat → List Int → Int → Int → Int → Int → Option (Int × Int × Bool)
  | 0, _, _, _, _, _ => none
  | k + 1, x0, x1, x7, x8, x9 => if x9 < 9 then (spec_l03Get.j1 k x0 x1 x7 x8 x9 (decide ((wrap64 (x1 + x9)) < (x0.length : Int)))) else (spec_l03Get.j1 k x0 x1 x7 x8 x9 false)
def spec_l03Get.j1 : Nat → List Int → Int → Int → Int → Int → Bool → Option (Int × Int × Bool)
  | 0, _, _, _, _, _, _ => none
  | k + 1, x0, x1, x7, x8, x9, x20 => if x20 = true then (if 0 ≤ (wrap64 (x1 + x9)) then (if (wrap64 (x1 + x9)) < (x0.length : Int) then (if x9 = 8 then (spec_l03Get.j2 k x0 x1 x7 x8 x9 (wrap64 (rd x0 (wrap64 (x1 + x9)))) (decide ((wrap64 (rd x0 (wrap64 (x1 + x9)))) > 63))) else (spec_l03Get.j2 k x0 x1 x7 x8 x9 (wrap64 (rd x0 (wrap64 (x1 + x9)))) false)) else (none)) else (none)) else (some (0, 0, false))
def spec_l03Get.j2 : Nat → List Int → Int → Int → Int → Int → Int → Bool → Option (Int × Int × Bool)
  | 0, _, _, _, _, _, _, _ => none
  | k + 1, x0, x1, x7, x8, x9, x10, x35 => if x35 = true then (some (0, 0, false)) else (if x10 < 128 then (if x9 = 0 then (some (wrap64 (x7 + (wrap64 ((Int.tmod x10 128) * x8))), wrap64 ((wrap64 (x1 + x9)) + 1), true)) else (some (wrap64 (x7 + (wrap64 ((Int.tmod x10 128) * x8))), wrap64 ((wrap64 (x1 + x9)) + 1), decide (x10 > 0)))) else (if x9 < 8 then (spec_l03Get.l0 k x0 x1 (wrap64 (x7 + (wrap64 ((Int.tmod x10 128) * x8)))) (wrap64 (x8 * 128)) (wrap64 (x9 + 1))) else (spec_l03Get.l0 k x0 x1 (wrap64 (x7 + (wrap64 ((Int.tmod x10 128) * x8)))) x8 (wrap64 (x9 + 1)))))
end
def spec_l03Get.f (k : Nat) (l0 : List Int) (a1 : Int) : Option (Int × Int × Bool) := spec_l03Get.l0 k l0 a1 0 1 0
theorem spec_l03Get.mono_l : ∀ k, (∀ y0 y1 y2 y3 y4, LeO (spec_l03Get.l0 k y0 y1 y2 y3 y4) (spec_l03Get.l0 (k + 1) y0 y1 y2 y3 y4)) ∧ (∀ y0 y1 y2 y3 y4 y5, LeO (spec_l03Get.j1 k y0 y1 y2 y3 y4 y5) (spec_l03Get.j1 (k + 1) y0 y1 y2 y3 y4 y5)) ∧ (∀ y0 y1 y2 y3 y4 y5 y6, LeO (spec_l03Get.j2 k y0 y1 y2 y3 y4 y5 y6) (spec_l03Get.j2 (k + 1) y0 y1 y2 y3 y4 y5 y6))
  | 0 => ⟨fun _ _ _ _ _ r h => by simp [spec_l03Get.l0] at h, fun _ _ _ _ _ _ r h => by simp [spec_l03Get.j1] at h, fun _ _ _ _ _ _ _ r h => by simp [spec_l03Get.j2] at h⟩
  | k + 1 => by
    obtain ⟨ih0, ih1, ih2⟩ := spec_l03Get.mono_l k
    refine ⟨?_, ?_, ?_⟩
    · intro y0 y1 y2 y3 y4
      unfold spec_l03Get.l0
      repeat' first
      | (with_reducible exact ih0 _ _ _ _ _)
      | (with_reducible exact ih1 _ _ _ _ _ _)
      | (with_reducible exact ih2 _ _ _ _ _ _ _)
      | (with_reducible exact LeO.refl _)
      | (with_reducible exact LeO.none _)
      | (with_reducible refine LeO.ite ?_ ?_)
      | (with_reducible refine LeO.bind ?_ (fun _ => ?_))
      | exact ih0 _ _ _ _ _
      | exact ih1 _ _ _ _ _ _
      | exact ih2 _ _ _ _ _ _ _
      | exact LeO.none _
      | refine LeO.ite ?_ ?_
      | refine LeO.bind ?_ (fun _ => ?_)
    · intro y0 y1 y2 y3 y4 y5
      unfold spec_l03Get.j1
      repeat' first
      | (with_reducible exact ih0 _ _ _ _ _)
      | (with_reducible exact ih1 _ _ _ _ _ _)
      | (with_reducible exact ih2 _ _ _ _ _ _ _)
      | (with_reducible exact LeO.refl _)
      | (with_reducible exact LeO.none _)
      | (with_reducible refine LeO.ite ?_ ?_)
      | (with_reducible refine LeO.bind ?_ (fun _ => ?_))
      | exact ih0 _ _ _ _ _
      | exact ih1 _ _ _ _ _ _
      | exact ih2 _ _ _ _ _ _ _
      | exact LeO.none _
      | refine LeO.ite ?_ ?_
      | refine LeO.bind ?_ (fun _ => ?_)
    · intro y0 y1 y2 y3 y4 y5 y6
      unfold spec_l03Get.j2
      repeat' first
      | (with_reducible exact ih0 _ _ _ _ _)
      | (with_reducible exact ih1 _ _ _ _ _ _)
      | (with_reducible exact ih2 _ _ _ _ _ _ _)
      | (with_reducible exact LeO.refl _)
      | (with_reducible exact LeO.none _)
      | (with_reducible refine LeO.ite ?_ ?_)
      | (with_reducible refine LeO.bind ?_ (fun _ => ?_))
      | exact ih0 _ _ _ _ _
      | exact ih1 _ _ _ _ _ _
      | exact ih2 _ _ _ _ _ _ _
      | exact LeO.none _
      | refine LeO.ite ?_ ?_
      | refine LeO.bind ?_ (fun _ => ?_)
theorem spec_l03Get.mono : ∀ a0 a1 k, LeO (spec_l03Get.f k a0 a1) (spec_l03Get.f (k + 1) a0 a1) := by
  intro a0 a1 k
  obtain ⟨ih0, ih1, ih2⟩ := spec_l03Get.mono_l k
  unfold spec_l03Get.f
  repeat' first
      | (with_reducible exact ih0 _ _ _ _ _)
      | (with_reducible exact ih1 _ _ _ _ _ _)
      | (with_reducible exact ih2 _ _ _ _ _ _ _)
      | (with_reducible exact LeO.refl _)
      | (with_reducible exact LeO.none _)
      | (with_reducible refine LeO.ite ?_ ?_)
      | (with_reducible refine LeO.bind ?_ (fun _ => ?_))
      | exact ih0 _ _ _ _ _
      | exact ih1 _ _ _ _ _ _
      | exact ih2 _ _ _ _ _ _ _
      | exact LeO.none _
      | refine LeO.ite ?_ ?_
      | refine LeO.bind ?_ (fun _ => ?_)
set_option maxHeartbeats 8000000 in
set_option maxRecDepth 100000 in
theorem spec_l03Get.calls (k : Nat) (A0 : Option Addr) (c0 : Nat) (l0 : List Int) (a1 : Int) (r1 : Int) (r2 : Int) (r3 : Bool) (w : World) (hr0 : Kd.C (Kd.int .u8) w A0 l0.length l0) (hc0 : l0.length ≤ c0) (h : spec_l03Get.f k l0 a1 = some (r1, r2, r3)) :
    Calls Try.prog 89 #[.slice A0 l0.length c0, .int .i64 a1] w fun e w' => e = .returned (.tuple #[.int .i64 r1, .int .i64 r2, .bool r3]) ∧ Drawn0 w w' := by
  have HR0 := Aside0.mk hr0
  have HC0 := Aside0.mk hc0
  clear hr0 hc0
  have H : (spec_l03Get.l0 k l0 a1 0 1 0) = some (r1, r2, r3) := h
  clear h
  have H' := Aside0.mk H
  clear H
  go_enter Try.func89, Try.ntmps89
  go_wp2
  go_loopg [7, 8, 9] k (fun kq v7 v8 v9 w' => ∃ (x7_1 : Int) (x8_1 : Int) (x9_1 : Int), v7 = .int .i64 x7_1 ∧ v8 = .int .i64 x8_1 ∧ v9 = .int .i64 x9_1 ∧ Aside0 (spec_l03Get.l0 kq l0 a1 x7_1 x8_1 x9_1 = some (r1, r2, r3)) ∧ Aside0 (kq ≤ k) ∧ Drawn0 w w')
  case atStart => exact ⟨(0), (1), (0), (by first | rfl | (simp; done) | (simp [*]; done)), (by first | rfl | (simp; done) | (simp [*]; done)), (by first | rfl | (simp; done) | (simp [*]; done)), H', ⟨Nat.le_refl _⟩, by repeat (first | exact Drawn0.refl _ | apply Drawn0.step)⟩
  case round =>
    clear H'
    try clear p2
    obtain ⟨x7_1, x8_1, x9_1, rfl, rfl, rfl, HA, HK1, ⟨m1, rfl⟩⟩ := hrel
    cases gk with
    | zero => exact absurd HA.out (by simp [spec_l03Get.l0])
    | succ k1 =>
      have H := HA.out
      clear HA
      simp only [spec_l03Get.l0] at H
      have HC3 := Aside0.mk H
      clear H
      go_upto_region 4 with (fail)
      go_cut [20] (fun v20 wc => ∃ (kq : Nat) (x20_2 : Bool), v20 = .bool x20_2 ∧ Aside0 (spec_l03Get.j1 kq l0 a1 x7_1 x8_1 x9_1 x20_2 = some (r1, r2, r3)) ∧ Aside0 (kq ≤ k1) ∧ Drawn0 w wc)
      case first =>
        have H := HC3.out
        clear HC3
        by_cases c4 : x9_1 < 9
        · rw [if_pos c4] at H
          have c4b0 : decide (x9_1 < 9) = true := decide_eq_true c4
          clear c4
          (first | rw [c4b0] | (simp only [i64_w, i32_w]; rw [c4b0]) | skip)
          have H' := Aside0.mk H
          clear H
          go_wp2
          go_meet
          case rel => exact ⟨_, (decide ((wrap64 (a1 + x9_1)) < (l0.length : Int))), (by first | rfl | (simp; done) | (simp [*]; done)), H', ⟨by have := HK1.out; first | omega | exact Nat.le_refl _⟩, by repeat (first | exact Drawn0.refl _ | apply Drawn0.step)⟩
        · rw [if_neg c4] at H
          have c4b0 : decide (x9_1 < 9) = false := decide_eq_false c4
          clear c4
          (first | rw [c4b0] | (simp only [i64_w, i32_w]; rw [c4b0]) | skip)
          have H' := Aside0.mk H
          clear H
          go_wp2
          go_meet
          case rel => exact ⟨_, (false), (by first | rfl | (simp; done) | (simp [*]; done)), H', ⟨by have := HK1.out; first | omega | exact Nat.le_refl _⟩, by repeat (first | exact Drawn0.refl _ | apply Drawn0.step)⟩
      case rest =>
        clear HC3
        try clear p2
        try clear c4
        try clear c4b0
        try clear p2
        obtain ⟨kq, x20_2, rfl, HA, HJ2, ⟨mc2, rfl⟩⟩ := hcut
        cases kq with
        | zero => exact absurd HA.out (by simp [spec_l03Get.j1])
        | succ kj2 =>
          have H := HA.out
          clear HA
          simp only [spec_l03Get.j1] at H
          by_cases c5 : x20_2 = true
          · subst c5
            have H1 : (if 0 ≤ (wrap64 (a1 + x9_1)) then (if (wrap64 (a1 + x9_1)) < (l0.length : Int) then (if x9_1 = 8 then (spec_l03Get.j2 kj2 l0 a1 x7_1 x8_1 x9_1 (wrap64 (rd l0 (wrap64 (a1 + x9_1)))) (decide ((wrap64 (rd l0 (wrap64 (a1 + x9_1)))) > 63))) else (spec_l03Get.j2 kj2 l0 a1 x7_1 x8_1 x9_1 (wrap64 (rd l0 (wrap64 (a1 + x9_1)))) false)) else (none)) else (none)) = some (r1, r2, r3) := by rw [if_pos rfl] at H; exact H
            clear H
            have H := H1
            clear H1
            obtain ⟨ji6, hji6⟩ : ∃ j_ : Int, (wrap64 (a1 + x9_1)) = j_ := ⟨_, rfl⟩
            replace H : (if 0 ≤ (ji6) then (if (ji6) < (l0.length : Int) then (if x9_1 = 8 then (spec_l03Get.j2 kj2 l0 a1 x7_1 x8_1 x9_1 (wrap64 (rd l0 (ji6))) (decide ((wrap64 (rd l0 (ji6))) > 63))) else (spec_l03Get.j2 kj2 l0 a1 x7_1 x8_1 x9_1 (wrap64 (rd l0 (ji6))) false)) else (none)) else (none)) = some (r1, r2, r3) := by first | (rw [hji6] at H; exact H) | (simp only [hji6] at H ⊢; exact H)
            have hji6w : (IntKind.i64.wrap (a1 + x9_1)) = ji6 := (i64_w _).trans hji6
            by_cases c7 : 0 ≤ (ji6)
            · rw [if_pos c7] at H
              have c7b0 : decide (0 ≤ (ji6)) = true := decide_eq_true c7
              clear c7
              by_cases c8 : (ji6) < (l0.length : Int)
              · rw [if_pos c8] at H
                have c8b0 : decide ((ji6) < (l0.length : Int)) = true := decide_eq_true c8
                clear c8
                have HC9 := Aside0.mk H
                clear H
                have p124 : 0 ≤ ((ji6) : Int) := of_decide_eq_true zas
                have q124 : (ji6) < (l0.length : Int) := of_decide_eq_true zas
                obtain ⟨ad124, e124, hx124_0⟩ := Kd.at_int HR0.out (ji6) p124 q124
                cases e124
                replace p124 := eq_true p124
                replace q124 := eq_true q124
                go_upto_region 7 with (fail)
                go_cut [35] (fun v35 wc => ∃ (kq : Nat) (x35_8 : Bool), v35 = .bool x35_8 ∧ Aside0 (spec_l03Get.j2 kq l0 a1 x7_1 x8_1 x9_1 (wrap64 (rd l0 (ji6))) x35_8 = some (r1, r2, r3)) ∧ Aside0 (kq ≤ kj2) ∧ Drawn0 w wc)
                case first =>
                  have H := HC9.out
                  clear HC9
                  by_cases c10 : x9_1 = 8
                  · rw [if_pos c10] at H
                    have c10b0 : (x9_1 == 8) = true := beq_iff_eq.mpr c10
                    have c10b1 : (x9_1 != 8) = false := bne_eq_false_iff_eq.mpr c10
                    clear c10
                    (first | rw [c10b0] | (simp only [i64_w, i32_w]; rw [c10b0]) | skip)
                    have H' := Aside0.mk H
                    clear H
                    go_wp2
                    go_meet
                    case rel => exact ⟨_, (decide ((wrap64 (rd l0 (ji6))) > 63)), (by first | rfl | (simp; done) | (simp only [← hji6] <;> (first | rfl | simp)) | (simp [*]; done)), H', ⟨by have := HK1.out; have := HJ2.out; first | omega | exact Nat.le_refl _⟩, by repeat (first | exact Drawn0.refl _ | apply Drawn0.step)⟩
                  · rw [if_neg c10] at H
                    have c10b0 : (x9_1 == 8) = false := beq_eq_false_iff_ne.mpr c10
                    have c10b1 : (x9_1 != 8) = true := bne_iff_ne.mpr c10
                    (first | rw [c10b0] | (simp only [i64_w, i32_w]; rw [c10b0]) | skip)
                    have H' := Aside0.mk H
                    clear H
                    go_wp2
                    go_meet
                    case rel => exact ⟨_, (false), (by first | rfl | (simp; done) | (simp [*]; done)), H', ⟨by have := HK1.out; have := HJ2.out; first | omega | exact Nat.le_refl _⟩, by repeat (first | exact Drawn0.refl _ | apply Drawn0.step)⟩
                case rest =>
                  clear HC9
                  try clear c1
                  try clear p1
                  try clear q1
                  try clear hx1
                  try clear c2
                  try clear p2
                  try clear c4
                  try clear c4b0
                  try clear c5
                  try clear p6
                  try clear c7
                  try clear c7b0
                  try clear c8
                  try clear c8b0
                  try clear c10
                  try clear c10b0
                  try clear c10b1
                  try clear hx124_0
                  try clear p124
                  try clear p2
                  try clear q124
                  obtain ⟨kq, x35_8, rfl, HA, HJ8, ⟨mc8, rfl⟩⟩ := hcut
                  cases kq with
                  | zero => exact absurd HA.out (by simp [spec_l03Get.j2])
                  | succ kj8 =>
                    have H := HA.out
                    clear HA
                    simp only [spec_l03Get.j2] at H
                    by_cases c11 : x35_8 = true
                    · subst c11
                      have H1 : (some (0, 0, false)) = some (r1, r2, r3) := by rw [if_pos rfl] at H; exact H
                      clear H
                      have H := H1
                      clear H1
                      simp only [Option.some.injEq, Prod.mk.injEq] at H
                      obtain ⟨rfl, rfl, rfl⟩ := H
                      go_wp2
                      go_ret3
                      exact ⟨by first | rfl | (simp; done) | (simp only [← hji6] <;> (first | rfl | simp)) | (simp [*]; done), by repeat (first | exact Drawn0.refl _ | apply Drawn0.step)⟩
                    · replace c11 := Bool.eq_false_iff.mpr c11
                      subst c11
                      have H1 : (if (wrap64 (rd l0 (ji6))) < 128 then (if x9_1 = 0 then (some (wrap64 (x7_1 + (wrap64 ((Int.tmod (wrap64 (rd l0 (ji6))) 128) * x8_1))), wrap64 ((wrap64 (a1 + x9_1)) + 1), true)) else (some (wrap64 (x7_1 + (wrap64 ((Int.tmod (wrap64 (rd l0 (ji6))) 128) * x8_1))), wrap64 ((wrap64 (a1 + x9_1)) + 1), decide ((wrap64 (rd l0 (ji6))) > 0)))) else (if x9_1 < 8 then (spec_l03Get.l0 kj8 l0 a1 (wrap64 (x7_1 + (wrap64 ((Int.tmod (wrap64 (rd l0 (ji6))) 128) * x8_1)))) (wrap64 (x8_1 * 128)) (wrap64 (x9_1 + 1))) else (spec_l03Get.l0 kj8 l0 a1 (wrap64 (x7_1 + (wrap64 ((Int.tmod (wrap64 (rd l0 (ji6))) 128) * x8_1)))) x8_1 (wrap64 (x9_1 + 1))))) = some (r1, r2, r3) := by rw [if_neg (show ¬ (false = true) by decide)] at H; exact H
                      clear H
                      have H := H1
                      clear H1
                      by_cases c12 : (wrap64 (rd l0 (ji6))) < 128
                      · rw [if_pos c12] at H
                        have c12b0 : decide ((wrap64 (rd l0 (ji6))) < 128) = true := decide_eq_true c12
                        clear c12
                        by_cases c13 : x9_1 = 0
                        · rw [if_pos c13] at H
                          have c13b0 : (x9_1 == 0) = true := beq_iff_eq.mpr c13
                          have c13b1 : (x9_1 != 0) = false := bne_eq_false_iff_eq.mpr c13
                          clear c13
                          simp only [Option.some.injEq, Prod.mk.injEq] at H
                          obtain ⟨rfl, rfl, rfl⟩ := H
                          go_wp2
                          go_ret3
                          exact ⟨by first | rfl | (simp; done) | (simp only [← hji6] <;> (first | rfl | simp)) | (simp [*]; done), by repeat (first | exact Drawn0.refl _ | apply Drawn0.step)⟩
                        · rw [if_neg c13] at H
                          have c13b0 : (x9_1 == 0) = false := beq_eq_false_iff_ne.mpr c13
                          have c13b1 : (x9_1 != 0) = true := bne_iff_ne.mpr c13
                          simp only [Option.some.injEq, Prod.mk.injEq] at H
                          obtain ⟨rfl, rfl, rfl⟩ := H
                          go_wp2
                          go_ret3
                          exact ⟨by first | rfl | (simp; done) | (simp only [← hji6] <;> (first | rfl | simp)) | (simp [*]; done), by repeat (first | exact Drawn0.refl _ | apply Drawn0.step)⟩
                      · rw [if_neg c12] at H
                        have c12b0 : decide ((wrap64 (rd l0 (ji6))) < 128) = false := decide_eq_false c12
                        clear c12
                        by_cases c14 : x9_1 < 8
                        · rw [if_pos c14] at H
                          have c14b0 : decide (x9_1 < 8) = true := decide_eq_true c14
                          clear c14
                          have H' := Aside0.mk H
                          clear H
                          go_wp2
                          go_roundg kj8
                          case measure => have := HK1.out; have := HJ2.out; have := HJ8.out; omega
                          case rel => exact ⟨(wrap64 (x7_1 + (wrap64 ((Int.tmod (wrap64 (rd l0 (ji6))) 128) * x8_1)))), (wrap64 (x8_1 * 128)), (wrap64 (x9_1 + 1)), (by first | rfl | (simp; done) | (simp only [← hji6] <;> (first | rfl | simp)) | (simp [*]; done)), (by first | rfl | (simp; done) | (simp [*]; done)), (by first | rfl | (simp; done) | (simp [*]; done)), H', ⟨by have := HK1.out; have := HJ2.out; have := HJ8.out; omega⟩, by repeat (first | exact Drawn0.refl _ | apply Drawn0.step)⟩
                        · rw [if_neg c14] at H
                          have c14b0 : decide (x9_1 < 8) = false := decide_eq_false c14
                          clear c14
                          have H' := Aside0.mk H
                          clear H
                          go_wp2
                          go_roundg kj8
                          case measure => have := HK1.out; have := HJ2.out; have := HJ8.out; omega
                          case rel => exact ⟨(wrap64 (x7_1 + (wrap64 ((Int.tmod (wrap64 (rd l0 (ji6))) 128) * x8_1)))), (x8_1), (wrap64 (x9_1 + 1)), (by first | rfl | (simp; done) | (simp only [← hji6] <;> (first | rfl | simp)) | (simp [*]; done)), (by first | rfl | (simp; done) | (simp [*]; done)), (by first | rfl | (simp; done) | (simp [*]; done)), H', ⟨by have := HK1.out; have := HJ2.out; have := HJ8.out; omega⟩, by repeat (first | exact Drawn0.refl _ | apply Drawn0.step)⟩
              · rw [if_neg c8] at H
                exact absurd H (by simp)
            · rw [if_neg c7] at H
              exact absurd H (by simp)
          · replace c5 := Bool.eq_false_iff.mpr c5
            subst c5
            have H1 : (some (0, 0, false)) = some (r1, r2, r3) := by rw [if_neg (show ¬ (false = true) by decide)] at H; exact H
            clear H
            have H := H1
            clear H1
            simp only [Option.some.injEq, Prod.mk.injEq] at H
            obtain ⟨rfl, rfl, rfl⟩ := H
            go_wp2
            go_ret3
            exact ⟨by first | rfl | (simp; done) | (simp [*]; done), by repeat (first | exact Drawn0.refl _ | apply Drawn0.step)⟩

/-- A state of type 74 at block g of W; what its slices lead to came in by w0. -/
def IsS74 (w0 W : World) (g : Nat) (f0 : List Int) (f1 : Int) (f2 : Bool) : Prop := ∃ A0 c0, W.heap[g]? = some (.cells #[.slice A0 f0.length c0, .int .i64 f1, .bool f2] 74 (0, 0)) ∧ w0.heap.size ≤ g ∧ (Kd.C (Kd.int .u8) w0 A0 f0.length f0 ∧ f0.length ≤ c0)
theorem IsS74.grown {w0 W : World} {g : Nat} {f0 : List Int} {f1 : Int} {f2 : Bool} {W1 : World} {row : Option Nat} (h : IsS74 w0 W g f0 f1 f2) (hw : W.grownBy W1 row) (hne : some g ≠ row) : IsS74 w0 W1 g f0 f1 f2 := by
  obtain ⟨A0, c0, hb, hg, hr0⟩ := h
  exact ⟨A0, c0, blk_grown hb hw hne, hg, hr0⟩
theorem IsS74.own_neN {w0 W : World} {g : Nat} {f0 : List Int} {f1 : Int} {f2 : Bool} {α : Type} {d : Kd α} {e : Nat} {base : Nat} {ok : Nat → Prop} {v : Value} {xs : List α} (h : IsS74 w0 W g f0 f1 f2) (ho : Kd.N d e W base ok v xs) (ht : e ≠ 74) : some g ≠ v.ownBlock := by
  obtain ⟨A0, c0, hb, hg, hr0⟩ := h
  exact Kd.N_ne ho hb ht
theorem IsS74.fresh {w0 W : World} {g : Nat} {f0 : List Int} {f1 : Int} {f2 : Bool} (h : IsS74 w0 W g f0 f1 f2) : ∀ k, W.heap.size ≤ k → k ≠ g := by
  obtain ⟨A0, c0, hb, hg, hr0⟩ := h
  exact Kd.freshB hb
theorem IsS74.kept {w0 W : World} {g : Nat} {f0 : List Int} {f1 : Int} {f2 : Bool} {W1 : World} {S : Nat → Prop} (h : IsS74 w0 W g f0 f1 f2) (hk : Kept W W1 S) (hne : ¬ S g) : IsS74 w0 W1 g f0 f1 f2 := by
  obtain ⟨A0, c0, hb, hg, hr0⟩ := h
  exact ⟨A0, c0, blk_kept hb hk hne, hg, hr0⟩
theorem IsS74.below {w0 W : World} {g : Nat} {f0 : List Int} {f1 : Int} {f2 : Bool} {W1 : World} (h : IsS74 w0 W g f0 f1 f2) (hw : Below W.heap.size W W1) : IsS74 w0 W1 g f0 f1 f2 := h.grown (grown_of_below hw none) (by simp)
theorem IsS74.alloc {w0 W : World} {g : Nat} {f0 : List Int} {f1 : Int} {f2 : Bool} (h : IsS74 w0 W g f0 f1 f2) (o : Obj) : IsS74 w0 (W.alloc o) g f0 f1 f2 := h.below (below_alloc (Below.refl _ _) o)
theorem IsS74.drewN {w0 W : World} {g : Nat} {f0 : List Int} {f1 : Int} {f2 : Bool} (h : IsS74 w0 W g f0 f1 f2) (m : Nat) : IsS74 w0 (W.drewN m) g f0 f1 f2 := h
theorem IsS74.drew {w0 W : World} {g : Nat} {f0 : List Int} {f1 : Int} {f2 : Bool} (h : IsS74 w0 W g f0 f1 f2) : IsS74 w0 W.drew g f0 f1 f2 := h
theorem IsS74.at_ {w0 W : World} {g : Nat} {f0 : List Int} {f1 : Int} {f2 : Bool} {w' : World} {m : Nat} (hq : W.drewN m = w') (h : IsS74 w0 W g f0 f1 f2) : IsS74 w0 w' g f0 f1 f2 := by subst hq; exact IsS74.drewN h m
theorem IsS74.apart {w0 W : World} {g : Nat} {f0 : List Int} {f1 : Int} {f2 : Bool} {α : Type} {d : Kd α} {e : Nat} {base : Nat} {ok : Nat → Prop} {v : Value} {xs : List α} (h : IsS74 w0 W g f0 f1 f2) (ho : d.R e W base ok v xs) (ht : ∀ q, q ∈ e :: d.E → q ≠ 74) : d.R e W base (fun k => ok k ∧ k ≠ g) v xs := by
  obtain ⟨A0, c0, hb, hg, hr0⟩ := h
  exact Kd.R_types ho hb ht
theorem IsS74.own_ne {w0 W : World} {g : Nat} {f0 : List Int} {f1 : Int} {f2 : Bool} {α : Type} {d : Kd α} {e : Nat} {base : Nat} {ok : Nat → Prop} {v : Value} {xs : List α} (h : IsS74 w0 W g f0 f1 f2) (ho : d.R e W base ok v xs) (ht : e ≠ 74) : some g ≠ v.ownBlock := by
  obtain ⟨A0, c0, hb, hg, hr0⟩ := h
  exact Kd.R_ne ho hb ht
theorem IsS74.apartQ {w0 W : World} {g : Nat} {f0 : List Int} {f1 : Int} {f2 : Bool} {α : Type} {d : Kd α} {e : Nat} {base : Nat} {ok : Nat → Prop} {v : Value} {xs : List α} (h : IsS74 w0 W g f0 f1 f2) (ho : d.Q e W base ok v xs) (ht : ∀ q, q ∈ e :: d.E → q ≠ 74) : d.Q e W base (fun k => ok k ∧ k ≠ g) v xs := by
  obtain ⟨A0, c0, hb, hg, hr0⟩ := h
  exact Kd.Q_types ho hb ht
theorem IsS74.own_neQ {w0 W : World} {g : Nat} {f0 : List Int} {f1 : Int} {f2 : Bool} {α : Type} {d : Kd α} {e : Nat} {base : Nat} {ok : Nat → Prop} {v : Value} {xs : List α} (h : IsS74 w0 W g f0 f1 f2) (ho : d.Q e W base ok v xs) (ht : e ≠ 74) : some g ≠ v.ownBlock := by
  obtain ⟨A0, c0, hb, hg, hr0⟩ := h
  exact Kd.Q_ne ho hb ht
theorem IsS74.apartS {w0 W : World} {g : Nat} {f0 : List Int} {f1 : Int} {f2 : Bool} {α : Type} {d : Kd α} {e : Nat} {base : Nat} {ok : Nat → Prop} {v : Value} {xs : List α} (h : IsS74 w0 W g f0 f1 f2) (ho : d.S e W base ok v xs) (ht : ∀ q, q ∈ e :: d.E → q ≠ 74) : d.S e W base (fun k => ok k ∧ k ≠ g) v xs := by
  obtain ⟨A0, c0, hb, hg, hr0⟩ := h
  exact Kd.S_types ho hb ht
theorem IsS74.own_neS {w0 W : World} {g : Nat} {f0 : List Int} {f1 : Int} {f2 : Bool} {α : Type} {d : Kd α} {e : Nat} {base : Nat} {ok : Nat → Prop} {v : Value} {xs : List α} (h : IsS74 w0 W g f0 f1 f2) (ho : d.S e W base ok v xs) (ht : e ≠ 74) : some g ≠ v.ownBlock := by
  obtain ⟨A0, c0, hb, hg, hr0⟩ := h
  exact Kd.S_ne ho hb ht
theorem IsS74.lt {w0 W : World} {g : Nat} {f0 : List Int} {f1 : Int} {f2 : Bool} (h : IsS74 w0 W g f0 f1 f2) : g < W.heap.size := by
  obtain ⟨A0, c0, hb, hg, hr0⟩ := h
  exact blk_lt hb
theorem IsS74.ge {w0 W : World} {g : Nat} {f0 : List Int} {f1 : Int} {f2 : Bool} (h : IsS74 w0 W g f0 f1 f2) : w0.heap.size ≤ g := by
  obtain ⟨A0, c0, hb, hg, hr0⟩ := h
  exact hg
theorem IsS74.ne_blk {w0 W : World} {g : Nat} {f0 : List Int} {f1 : Int} {f2 : Bool} {a : Nat} {cs : Array Value} {t : TypeId} {fr : Nat × Nat} (h : IsS74 w0 W g f0 f1 f2) (hb2 : W.heap[a]? = some (.cells cs t fr)) (ht : t ≠ 74) : g ≠ a := by
  obtain ⟨A0, c0, hb, hg, hr0⟩ := h
  rintro rfl
  rw [hb] at hb2
  injection hb2 with hb2
  injection hb2 with _ ht2
  exact ht ht2.symm
theorem IsS74.far {w0 W : World} {g : Nat} {f0 : List Int} {f1 : Int} {f2 : Bool} {p : Addr} (h : IsS74 w0 W g f0 f1 f2) (hne : g ≠ p.block) (u : Value) : IsS74 w0 (W.setCell p u) g f0 f1 f2 := by
  obtain ⟨A0, c0, hb, hg, hr0⟩ := h
  exact ⟨A0, c0, blk_far hb hne u, hg, hr0⟩
theorem cellS74_0 {W : World} {g : Nat} {A0 : Option Addr} {c0 : Nat} {f0 : List Int} {f1 : Int} {f2 : Bool} (h : W.heap[g]? = some (.cells #[.slice A0 f0.length c0, .int .i64 f1, .bool f2] 74 (0, 0))) : W.cell? ⟨g, 0, none⟩ = some (.slice A0 f0.length c0) := (blk_cell h 0).trans rfl
theorem cellS74_1 {W : World} {g : Nat} {A0 : Option Addr} {c0 : Nat} {f0 : List Int} {f1 : Int} {f2 : Bool} (h : W.heap[g]? = some (.cells #[.slice A0 f0.length c0, .int .i64 f1, .bool f2] 74 (0, 0))) : W.cell? ⟨g, 1, none⟩ = some (.int .i64 f1) := (blk_cell h 1).trans rfl
theorem IsS74.set_1 {w0 W : World} {g : Nat} {f0 : List Int} {f1 : Int} {f2 : Bool} (h : IsS74 w0 W g f0 f1 f2) (x : Int) : IsS74 w0 (W.setCell ⟨g, 1, none⟩ (.int .i64 x)) g f0 x f2 := by
  obtain ⟨A0, c0, hb, hg, hr0⟩ := h
  exact ⟨A0, c0, by simpa using blk_set hb 1 (.int .i64 x), hg, hr0⟩
theorem cellS74_2 {W : World} {g : Nat} {A0 : Option Addr} {c0 : Nat} {f0 : List Int} {f1 : Int} {f2 : Bool} (h : W.heap[g]? = some (.cells #[.slice A0 f0.length c0, .int .i64 f1, .bool f2] 74 (0, 0))) : W.cell? ⟨g, 2, none⟩ = some (.bool f2) := (blk_cell h 2).trans rfl
theorem IsS74.set_2 {w0 W : World} {g : Nat} {f0 : List Int} {f1 : Int} {f2 : Bool} (h : IsS74 w0 W g f0 f1 f2) (x : Bool) : IsS74 w0 (W.setCell ⟨g, 2, none⟩ (.bool x)) g f0 f1 x := by
  obtain ⟨A0, c0, hb, hg, hr0⟩ := h
  exact ⟨A0, c0, by simpa using blk_set hb 2 (.bool x), hg, hr0⟩
theorem IsS74.new (w0 W : World) (A0 : Option Addr) (c0 : Nat) (f0 : List Int) (f1 : Int) (f2 : Bool) (hB : Below w0.heap.size w0 W) (hr0 : (Kd.C (Kd.int .u8) w0 A0 f0.length f0 ∧ f0.length ≤ c0)) : IsS74 w0 (W.alloc (.cells #[.slice A0 f0.length c0, .int .i64 f1, .bool f2] 74)) W.heap.size f0 f1 f2 := ⟨A0, c0, by simpa using heap_alloc_new W _, hB.size, hr0⟩

/-! ### spec_l06Reader_num: function 96 -/
def spec_l06Reader_num.f (k : Nat) (s0_0 : List Int) (s0_1 : Int) (s0_2 : Bool) : Option (Int × Int × Bool) := if s0_2 = true then (some (0, s0_1, s0_2)) else ((spec_l03Get.f k s0_0 s0_1).bind fun bt125 => (if bt125.2.2 = true then (some (bt125.1, bt125.2.1, s0_2)) else (some (0, s0_1, true))))
theorem spec_l06Reader_num.mono : ∀ a0 a1 a2 k, LeO (spec_l06Reader_num.f k a0 a1 a2) (spec_l06Reader_num.f (k + 1) a0 a1 a2) := by
  intro a0 a1 a2 k
  unfold spec_l06Reader_num.f
  repeat' first
      | (with_reducible exact spec_l03Get.mono _ _ _)
      | (with_reducible exact LeO.refl _)
      | (with_reducible exact LeO.none _)
      | (with_reducible refine LeO.ite ?_ ?_)
      | (with_reducible refine LeO.bind ?_ (fun _ => ?_))
      | exact spec_l03Get.mono _ _ _
      | exact LeO.none _
      | refine LeO.ite ?_ ?_
      | refine LeO.bind ?_ (fun _ => ?_)
set_option maxHeartbeats 8000000 in
set_option maxRecDepth 100000 in
theorem spec_l06Reader_num.calls (k : Nat) (g : Nat) (s0_0 : List Int) (s0_1 : Int) (s0_2 : Bool) (r1 : Int) (r2 : Int) (r3 : Bool) (w0 w : World) (hI : IsS74 w0 w g s0_0 s0_1 s0_2) (hB : Below w0.heap.size w0 w) (h : spec_l06Reader_num.f k s0_0 s0_1 s0_2 = some (r1, r2, r3)) :
    Calls Try.prog 96 #[.pointer (some ⟨g, 0, none⟩)] w fun e w' => e = .returned (.int .i64 r1) ∧ IsS74 w0 w' g s0_0 r2 r3 ∧ Below w0.heap.size w0 w' ∧ KeepBut w w' g none := by
  have HI0 := Aside0.mk hI
  have HK := Aside0.mk (KeepBut.refl w g none)
  have HL := Aside0.mk hB.size
  clear hI
  have HW0 := Aside0.mk hB.size
  have HB := Aside0.mk hB
  clear hB
  have H : (if s0_2 = true then (some (0, s0_1, s0_2)) else ((spec_l03Get.f k s0_0 s0_1).bind fun bt125 => (if bt125.2.2 = true then (some (bt125.1, bt125.2.1, s0_2)) else (some (0, s0_1, true))))) = some (r1, r2, r3) := h
  clear h
  by_cases c2 : s0_2 = true
  · subst c2
    have H1 : (some (0, s0_1, true)) = some (r1, r2, r3) := by rw [if_pos rfl] at H; exact H
    clear H
    have H := H1
    clear H1
    simp only [Option.some.injEq, Prod.mk.injEq] at H
    obtain ⟨rfl, rfl, rfl⟩ := H
    obtain ⟨ASz3_0, cSz3_0, HGz3, hgz3, HSz3_0⟩ := HI0.out
    have hcz3_0 := cellS74_0 HGz3
    have hcz3_1 := cellS74_1 HGz3
    have hcz3_2 := cellS74_2 HGz3
    have hfz3_1 := blk_frozen HGz3 1
    have hfz3_2 := blk_frozen HGz3 2
    clear HGz3 hgz3
    go_enter Try.func96, Try.ntmps96
    go_wp2
    repeat (go_quiet (fail); try go_wp2)
    go_ret
    exact ⟨zre, by repeat (first | (with_reducible first | exact HI0.out | apply IsS74.alloc | apply IsS74.drewN | apply IsS74.drew | apply IsS74.set_1 | apply IsS74.set_2) | exact HI0.out), by repeat (first | (with_reducible first | exact HB.out | apply below_alloc | apply pw_below_drewN | apply below_drew1 | refine below_set ?_ (IsS74.ge HI0.out)) | exact HB.out), by repeat (first | (with_reducible first | exact HK.out | apply KeepBut.set_ | apply keep_drewN | apply keep_drew | apply keep_alloc) | exact HK.out)⟩
  · replace c2 := Bool.eq_false_iff.mpr c2
    subst c2
    have H1 : ((spec_l03Get.f k s0_0 s0_1).bind fun bt125 => (if bt125.2.2 = true then (some (bt125.1, bt125.2.1, false)) else (some (0, s0_1, true)))) = some (r1, r2, r3) := by rw [if_neg (show ¬ (false = true) by decide)] at H; exact H
    clear H
    have H := H1
    clear H1
    replace H := Option.bind_eq_some_iff.mp H
    obtain ⟨⟨t125, t126, t127⟩, A40, H⟩ := H
    replace H : (if t127 = true then (some (t125, t126, false)) else (some (0, s0_1, true))) = some (r1, r2, r3) := H
    have A4 := Aside0.mk A40
    clear A40
    by_cases c5 : t127 = true
    · subst c5
      have H1 : (some (t125, t126, false)) = some (r1, r2, r3) := by rw [if_pos rfl] at H; exact H
      clear H
      have H := H1
      clear H1
      simp only [Option.some.injEq, Prod.mk.injEq] at H
      obtain ⟨rfl, rfl, rfl⟩ := H
      obtain ⟨ASz6_0, cSz6_0, HGz6, hgz6, HSz6_0⟩ := HI0.out
      have hcz6_0 := cellS74_0 HGz6
      have hcz6_1 := cellS74_1 HGz6
      have hcz6_2 := cellS74_2 HGz6
      have hfz6_1 := blk_frozen HGz6 1
      have hfz6_2 := blk_frozen HGz6 2
      clear HGz6 hgz6
      go_enter Try.func96, Try.ntmps96
      go_wp2_with (first | (go_at_call 89; (with_reducible refine (spec_l03Get.calls k _ _ s0_0 s0_1 t125 t126 true _ ?side1 ?side2 A4.out).mono ?_); (case side1 => exact Kd.C_below HSz6_0.1 (by repeat (first | (with_reducible first | exact HB.out | apply below_alloc | apply pw_below_drewN | apply below_drew1 | refine below_set ?_ (IsS74.ge HI0.out)) | exact HB.out))); (case side2 => exact HSz6_0.2); rintro e w' ⟨rfl, ⟨nd, rfl⟩⟩; (try first | exact ⟨rfl, _, World.drewN_drewN _ _ _⟩ | exact ⟨rfl, _, Eq.trans (World.drewN_drewN _ _ _) (congrArg (World.drewN _) (Nat.add_assoc _ _ _))⟩)))
      repeat (go_quiet (first | (go_at_call 89; (with_reducible refine (spec_l03Get.calls k _ _ s0_0 s0_1 t125 t126 true _ ?side1 ?side2 A4.out).mono ?_); (case side1 => exact Kd.C_below HSz6_0.1 (by repeat (first | (with_reducible first | exact HB.out | apply below_alloc | apply pw_below_drewN | apply below_drew1 | refine below_set ?_ (IsS74.ge HI0.out)) | exact HB.out))); (case side2 => exact HSz6_0.2); rintro e w' ⟨rfl, ⟨nd, rfl⟩⟩; (try first | exact ⟨rfl, _, World.drewN_drewN _ _ _⟩ | exact ⟨rfl, _, Eq.trans (World.drewN_drewN _ _ _) (congrArg (World.drewN _) (Nat.add_assoc _ _ _))⟩))); try go_wp2_with (first | (go_at_call 89; (with_reducible refine (spec_l03Get.calls k _ _ s0_0 s0_1 t125 t126 true _ ?side1 ?side2 A4.out).mono ?_); (case side1 => exact Kd.C_below HSz6_0.1 (by repeat (first | (with_reducible first | exact HB.out | apply below_alloc | apply pw_below_drewN | apply below_drew1 | refine below_set ?_ (IsS74.ge HI0.out)) | exact HB.out))); (case side2 => exact HSz6_0.2); rintro e w' ⟨rfl, ⟨nd, rfl⟩⟩; (try first | exact ⟨rfl, _, World.drewN_drewN _ _ _⟩ | exact ⟨rfl, _, Eq.trans (World.drewN_drewN _ _ _) (congrArg (World.drewN _) (Nat.add_assoc _ _ _))⟩))))
      go_ret
      exact ⟨zre, by repeat (first | (with_reducible first | exact HI0.out | apply IsS74.alloc | apply IsS74.drewN | apply IsS74.drew | apply IsS74.set_1 | apply IsS74.set_2) | exact HI0.out), by repeat (first | (with_reducible first | exact HB.out | apply below_alloc | apply pw_below_drewN | apply below_drew1 | refine below_set ?_ (IsS74.ge HI0.out)) | exact HB.out), by repeat (first | (with_reducible first | exact HK.out | apply KeepBut.set_ | apply keep_drewN | apply keep_drew | apply keep_alloc) | exact HK.out)⟩
    · replace c5 := Bool.eq_false_iff.mpr c5
      subst c5
      have H1 : (some (0, s0_1, true)) = some (r1, r2, r3) := by rw [if_neg (show ¬ (false = true) by decide)] at H; exact H
      clear H
      have H := H1
      clear H1
      simp only [Option.some.injEq, Prod.mk.injEq] at H
      obtain ⟨rfl, rfl, rfl⟩ := H
      obtain ⟨ASz7_0, cSz7_0, HGz7, hgz7, HSz7_0⟩ := HI0.out
      have hcz7_0 := cellS74_0 HGz7
      have hcz7_1 := cellS74_1 HGz7
      have hcz7_2 := cellS74_2 HGz7
      have hfz7_1 := blk_frozen HGz7 1
      have hfz7_2 := blk_frozen HGz7 2
      clear HGz7 hgz7
      go_enter Try.func96, Try.ntmps96
      go_wp2_with (first | (go_at_call 89; (with_reducible refine (spec_l03Get.calls k _ _ s0_0 s0_1 t125 t126 false _ ?side1 ?side2 A4.out).mono ?_); (case side1 => exact Kd.C_below HSz7_0.1 (by repeat (first | (with_reducible first | exact HB.out | apply below_alloc | apply pw_below_drewN | apply below_drew1 | refine below_set ?_ (IsS74.ge HI0.out)) | exact HB.out))); (case side2 => exact HSz7_0.2); rintro e w' ⟨rfl, ⟨nd, rfl⟩⟩; (try first | exact ⟨rfl, _, World.drewN_drewN _ _ _⟩ | exact ⟨rfl, _, Eq.trans (World.drewN_drewN _ _ _) (congrArg (World.drewN _) (Nat.add_assoc _ _ _))⟩)))
      repeat (go_quiet (first | (go_at_call 89; (with_reducible refine (spec_l03Get.calls k _ _ s0_0 s0_1 t125 t126 false _ ?side1 ?side2 A4.out).mono ?_); (case side1 => exact Kd.C_below HSz7_0.1 (by repeat (first | (with_reducible first | exact HB.out | apply below_alloc | apply pw_below_drewN | apply below_drew1 | refine below_set ?_ (IsS74.ge HI0.out)) | exact HB.out))); (case side2 => exact HSz7_0.2); rintro e w' ⟨rfl, ⟨nd, rfl⟩⟩; (try first | exact ⟨rfl, _, World.drewN_drewN _ _ _⟩ | exact ⟨rfl, _, Eq.trans (World.drewN_drewN _ _ _) (congrArg (World.drewN _) (Nat.add_assoc _ _ _))⟩))); try go_wp2_with (first | (go_at_call 89; (with_reducible refine (spec_l03Get.calls k _ _ s0_0 s0_1 t125 t126 false _ ?side1 ?side2 A4.out).mono ?_); (case side1 => exact Kd.C_below HSz7_0.1 (by repeat (first | (with_reducible first | exact HB.out | apply below_alloc | apply pw_below_drewN | apply below_drew1 | refine below_set ?_ (IsS74.ge HI0.out)) | exact HB.out))); (case side2 => exact HSz7_0.2); rintro e w' ⟨rfl, ⟨nd, rfl⟩⟩; (try first | exact ⟨rfl, _, World.drewN_drewN _ _ _⟩ | exact ⟨rfl, _, Eq.trans (World.drewN_drewN _ _ _) (congrArg (World.drewN _) (Nat.add_assoc _ _ _))⟩))))
      go_ret
      exact ⟨zre, by repeat (first | (with_reducible first | exact HI0.out | apply IsS74.alloc | apply IsS74.drewN | apply IsS74.drew | apply IsS74.set_1 | apply IsS74.set_2) | exact HI0.out), by repeat (first | (with_reducible first | exact HB.out | apply below_alloc | apply pw_below_drewN | apply below_drew1 | refine below_set ?_ (IsS74.ge HI0.out)) | exact HB.out), by repeat (first | (with_reducible first | exact HK.out | apply KeepBut.set_ | apply keep_drewN | apply keep_drew | apply keep_alloc) | exact HK.out)⟩

end Go.Proofs.Ytnpdmleglcbobaa.XFnExactReadDoc
