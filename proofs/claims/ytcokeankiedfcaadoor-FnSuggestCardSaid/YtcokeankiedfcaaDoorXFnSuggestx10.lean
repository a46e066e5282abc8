-- A printed text of this session (wip/x/xprint.py).
import Derived.Test.YtcokeankiedfcaaDoorXFnSuggestx0
import Derived.Test.YtcokeankiedfcaaDoorXFnSuggestx8
import Derived.Test.YtcokeankiedfcaaDoorXFnSuggestx9
namespace Go.Proofs.YtcokeankiedfcaaDoor.XFnSuggest
open Go.RowKit Go.Proofs.YtcokeankiedfcaaDoorW.PrintWords Go.Proofs.YtcokeankiedfcaaDoorW.PrintLast Go.Proofs.YtcokeankiedfcaaDoorW.PrintMore
attribute [local go_sem] max2_int min2_int max_two min_two max_three min_three max_four min_four   -- for this text's walks alone
set_option linter.unusedVariables false
set_option linter.unusedSimpArgs false

/-! ### spec_l01Src_next: function 60 -/
def spec_l01Src_next.f (s0_0 : List Int) (s0_1 : Int) (s0_2 : Int) (a1 : Int) : Option (Int × Int × Int) := if a1 ≤ 1 then (some (0, s0_1, s0_2)) else (if a1 ≤ 256 then ((spec_l01Src_byte.f s0_0 s0_1 s0_2).bind fun bt268 => (if a1 = 0 then (none) else (some (Int.tmod bt268.1 a1, bt268.2.1, bt268.2.2)))) else ((spec_l01Src_byte.f s0_0 s0_1 s0_2).bind fun bt271 => ((spec_l01Src_byte.f s0_0 bt271.2.1 bt271.2.2).bind fun bt274 => ((spec_l01Src_byte.f s0_0 bt274.2.1 bt274.2.2).bind fun bt277 => (if a1 = 0 then (none) else (some (Int.tmod (wrap64 ((wrap64 ((wrap64 (bt271.1 * 65536)) + (wrap64 (bt274.1 * 256)))) + bt277.1)) a1, bt277.2.1, bt277.2.2)))))))
set_option maxHeartbeats 8000000 in
set_option maxRecDepth 100000 in
theorem spec_l01Src_next.calls (g : Nat) (s0_0 : List Int) (s0_1 : Int) (s0_2 : Int) (a1 : Int) (r1 : Int) (r2 : Int) (r3 : Int) (w0 w : World) (hI : IsS127 w0 w g s0_0 s0_1 s0_2) (hB : Below w0.heap.size w0 w) (h : spec_l01Src_next.f s0_0 s0_1 s0_2 a1 = some (r1, r2, r3)) :
    Calls Tryd.prog 60 #[.pointer (some ⟨g, 0, none⟩), .int .i64 a1] w fun e w' => e = .returned (.int .i64 r1) ∧ IsS127 w0 w' g s0_0 r2 r3 ∧ Below w0.heap.size w0 w' ∧ KeepBut w w' g none := by
  have HI0 := Aside0.mk hI
  have HK := Aside0.mk (KeepBut.refl w g none)
  have HL := Aside0.mk hB.size
  clear hI
  have HW0 := Aside0.mk hB.size
  have HB := Aside0.mk hB
  clear hB
  have H := h
  unfold spec_l01Src_next.f at H
  clear h
  by_cases c3 : a1 ≤ 1
  · rw [if_pos c3] at H
    have c3b0 : decide (a1 ≤ 1) = true := decide_eq_true c3
    clear c3
    simp only [Option.some.injEq, Prod.mk.injEq] at H
    obtain ⟨rfl, rfl, rfl⟩ := H
    go_enter Tryd.func60, Tryd.ntmps60
    go_wp2
    go_ret
    exact ⟨zre, zi127 HI0, zj127 HB, zk HK⟩
  rw [if_neg c3] at H
  have c3b0 : decide (a1 ≤ 1) = false := decide_eq_false c3
  clear c3
  by_cases c4 : a1 ≤ 256
  · rw [if_pos c4] at H
    have c4b0 : decide (a1 ≤ 256) = true := decide_eq_true c4
    clear c4
    replace H := Option.bind_eq_some_iff.mp H
    obtain ⟨⟨t268, t269, t270⟩, A50, H⟩ := H
    try dsimp only at H
    have A5 := Aside0.mk A50
    clear A50
    by_cases c6 : a1 = 0
    · rw [if_pos c6] at H
      exact absurd H (by simp)
    rw [if_neg c6] at H
    have c6b0 : (a1 == 0) = false := beq_eq_false_iff_ne.mpr c6
    have c6b1 : (a1 != 0) = true := bne_iff_ne.mpr c6
    simp only [Option.some.injEq, Prod.mk.injEq] at H
    obtain ⟨rfl, rfl, rfl⟩ := H
    go_enter Tryd.func60, Tryd.ntmps60
    go_wp2_with (first | ((with_reducible refine gate_callee (f := 103) rfl ?_); refine goesL_ (some 10) rfl rfl Tryd.func103 (by kernel_rfl) rfl #[.pointer (some ⟨g, 0, none⟩)] rfl zar ?_; (with_reducible refine (spec_l01Src_byte.calls g s0_0 s0_1 s0_2 t268 t269 t270 w0 _ ?side1 ?side2 A5.out).mono ?_); (case side1 => exact zi127 HI0); (case side2 => exact zj127 HB); rintro e w7 ⟨rfl, hi, hb, hk⟩; refine ⟨_, rfl, ?_⟩; replace HK := Aside0.mk (KeepBut.trans (zk HK) hk (.inl rfl)); replace HB := Aside0.mk (hb); replace HI0 := Aside0.mk (hi); (try clear hb); (try clear hb2); (try clear hk); (try clear hi)))
    go_ret
    exact ⟨zre, zi127 HI0, zj127 HB, zk HK⟩
  rw [if_neg c4] at H
  have c4b0 : decide (a1 ≤ 256) = false := decide_eq_false c4
  clear c4
  replace H := Option.bind_eq_some_iff.mp H
  obtain ⟨⟨t271, t272, t273⟩, A80, H⟩ := H
  try dsimp only at H
  have A8 := Aside0.mk A80
  clear A80
  replace H := Option.bind_eq_some_iff.mp H
  obtain ⟨⟨t274, t275, t276⟩, A90, H⟩ := H
  try dsimp only at H
  have A9 := Aside0.mk A90
  clear A90
  replace H := Option.bind_eq_some_iff.mp H
  obtain ⟨⟨t277, t278, t279⟩, A100, H⟩ := H
  try dsimp only at H
  have A10 := Aside0.mk A100
  clear A100
  by_cases c11 : a1 = 0
  · rw [if_pos c11] at H
    exact absurd H (by simp)
  rw [if_neg c11] at H
  have c11b0 : (a1 == 0) = false := beq_eq_false_iff_ne.mpr c11
  have c11b1 : (a1 != 0) = true := bne_iff_ne.mpr c11
  simp only [Option.some.injEq, Prod.mk.injEq] at H
  obtain ⟨rfl, rfl, rfl⟩ := H
  go_enter Tryd.func60, Tryd.ntmps60
  go_wp2_with (first | ((with_reducible refine gate_callee (f := 103) rfl ?_); refine goesL_ (some 14) rfl rfl Tryd.func103 (by kernel_rfl) rfl #[.pointer (some ⟨g, 0, none⟩)] rfl zar ?_; (with_reducible refine (spec_l01Src_byte.calls g s0_0 s0_1 s0_2 t271 t272 t273 w0 _ ?side1 ?side2 A8.out).mono ?_); (case side1 => exact zi127 HI0); (case side2 => exact zj127 HB); rintro e w12 ⟨rfl, hi, hb, hk⟩; refine ⟨_, rfl, ?_⟩; replace HK := Aside0.mk (KeepBut.trans (zk HK) hk (.inl rfl)); replace HB := Aside0.mk (hb); replace HI0 := Aside0.mk (hi); (try clear hb); (try clear hb2); (try clear hk); (try clear hi)) | ((with_reducible refine gate_callee (f := 103) rfl ?_); refine goesL_ (some 17) rfl rfl Tryd.func103 (by kernel_rfl) rfl #[.pointer (some ⟨g, 0, none⟩)] rfl zar ?_; (with_reducible refine (spec_l01Src_byte.calls g s0_0 t272 t273 t274 t275 t276 w0 _ ?side1 ?side2 A9.out).mono ?_); (case side1 => exact zi127 HI0); (case side2 => exact zj127 HB); rintro e w13 ⟨rfl, hi, hb, hk⟩; refine ⟨_, rfl, ?_⟩; replace HK := Aside0.mk (KeepBut.trans (zk HK) hk (.inl rfl)); replace HB := Aside0.mk (hb); replace HI0 := Aside0.mk (hi); (try clear hb); (try clear hb2); (try clear hk); (try clear hi)) | ((with_reducible refine gate_callee (f := 103) rfl ?_); refine goesL_ (some 21) rfl rfl Tryd.func103 (by kernel_rfl) rfl #[.pointer (some ⟨g, 0, none⟩)] rfl zar ?_; (with_reducible refine (spec_l01Src_byte.calls g s0_0 t275 t276 t277 t278 t279 w0 _ ?side1 ?side2 A10.out).mono ?_); (case side1 => exact zi127 HI0); (case side2 => exact zj127 HB); rintro e w14 ⟨rfl, hi, hb, hk⟩; refine ⟨_, rfl, ?_⟩; replace HK := Aside0.mk (KeepBut.trans (zk HK) hk (.inl rfl)); replace HB := Aside0.mk (hb); replace HI0 := Aside0.mk (hi); (try clear hb); (try clear hb2); (try clear hk); (try clear hi)))
  go_ret
  exact ⟨zre, zi127 HI0, zj127 HB, zk HK⟩

/-! ### spec_l01Src_spoil: function 61 -/
/-! a row of bytes that a conversion made: its block's mark lies behind its cells -/
def FR (W : World) (b n c : Nat) (xs : List Int) : Prop := xs.length = n ∧ n ≤ c ∧ c ≤ maxLen ∧ ∃ cur fz, W.heap[b]? = some (.cells cur 5 fz) ∧ cur.size = c ∧ c ≤ fz.1 ∧ cur.toList.take n = nums .u8 xs
theorem FR.new (w : World) (s : ByteArray) (hs : s.size ≤ maxLen) : FR (Lib.bytesWorld w 5 s) w.heap.size s.size (grownCap w s.size 0 5) (bytesOf s) := by
  have hge := grownCap_ge w s.size 0 5
  have hds : s.data.size = s.size := rfl
  have hc : (Lib.bytesCells w 5 s).size = grownCap w s.size 0 5 := by
    unfold Lib.bytesCells
    rw [Array.size_append, Array.size_map, Array.size_replicate, hds]; omega
  refine ⟨bytesOf_length s, hge, grownCap_le_maxLen w s.size 0 5 hs, _, _, Lib.bytesWorld_at_new w 5 s, hc, by rw [hc]; exact Nat.le_refl _, ?_⟩
  unfold Lib.bytesCells nums bytesOf
  rw [Array.toList_append, List.take_append_of_le_length (by rw [Array.length_toList, Array.size_map, hds]; exact Nat.le_refl _), List.take_of_length_le (by rw [Array.length_toList, Array.size_map, hds]; exact Nat.le_refl _)]
  simp
theorem FR.at_ {W : World} {b n c : Nat} {xs : List Int} (h : FR W b n c xs) (j : Nat) (hj : j < n) : W.cell? ⟨b, j, none⟩ = some (.int .u8 (xs.getD j 0)) := by
  obtain ⟨h1, h2, _, cur, fz, hg, h3, h4, h5⟩ := h
  have e : cur.toList[j]? = (nums .u8 xs)[j]? := by rw [← h5, List.getElem?_take, if_pos hj]
  rw [cell_of_row W b j cur 5 fz hg, ← Array.getElem?_toList, e]
  unfold nums
  rw [List.getElem?_map, List.getD_eq_getElem?_getD, List.getElem?_eq_getElem (by omega)]
  rfl
theorem FR.thaw {W : World} {b n c : Nat} {xs : List Int} (h : FR W b n c xs) (j : Nat) (hj : j < c) : W.frozen? ⟨b, j, none⟩ = false := by
  obtain ⟨h1, h2, _, cur, fz, hg, h3, h4, h5⟩ := h
  obtain ⟨lo, hi⟩ := fz
  simp only at h4
  simp only [World.frozen?, hg, Bool.and_eq_false_iff, decide_eq_false_iff_not]
  left; omega
theorem FR.lt {W : World} {b n c : Nat} {xs : List Int} (h : FR W b n c xs) : b < W.heap.size := by
  obtain ⟨_, _, _, cur, fz, hg, _⟩ := h
  exact (Array.getElem?_eq_some_iff.1 hg).1
theorem FR.keep {W W1 : World} {b n c g : Nat} {xs : List Int} (h : FR W b n c xs) (hk : KeepBut W W1 g none) (hne : b ≠ g) : FR W1 b n c xs := by
  have hl := h.lt
  obtain ⟨h1, h2, h6, cur, fz, hg, h3, h4, h5⟩ := h
  exact ⟨h1, h2, h6, cur, fz, (hk.2 b hl hne (by simp)).trans hg, h3, h4, h5⟩
theorem FR.alloc {W : World} {b n c : Nat} {xs : List Int} (h : FR W b n c xs) (o : Obj) : FR (W.alloc o) b n c xs := by
  have hl := h.lt
  obtain ⟨h1, h2, h6, cur, fz, hg, h3, h4, h5⟩ := h
  exact ⟨h1, h2, h6, cur, fz, (heap_alloc_old W o hl).trans hg, h3, h4, h5⟩
theorem FR.ne {W w0 : World} {b n c g : Nat} {xs s0 : List Int} {s1 s2 : Int} (h : FR W b n c xs) (hI : IsS127 w0 W g s0 s1 s2) : b ≠ g := by
  obtain ⟨h1, h2, h6, cur, fz, hg, h3, h4, h5⟩ := h
  exact fun e => hI.ne_blk hg (by decide) e.symm
theorem C_ofcells {W : World} {b n : Nat} {xs : List Int} (hn : xs.length = n) (hm : n ≤ maxLen) (h : ∀ j, j < n → W.cell? ⟨b, j, none⟩ = some (.int .u8 (xs.getD j 0))) : Kd.C (Kd.int .u8) W (some ⟨b, 0, none⟩) n xs := by
  refine Kd.C_of_reads (readsInt_of.1 ⟨hn, hm, fun _ => ⟨_, rfl, fun j hj => ?_⟩⟩)
  rw [add_plain]
  exact h j hj
theorem FR.cut {W : World} {b n c : Nat} {xs : List Int} (h : FR W b n c xs) (m : Nat) (hm : m ≤ n) : Kd.C (Kd.int .u8) W (some ⟨b, 0, none⟩) m (xs.take m) := by
  have h1 := h.1
  have h6 := h.2.2.1
  have h7 := h.2.1
  refine C_ofcells (by rw [List.length_take]; omega) (by omega) (fun j hj => ?_)
  rw [h.at_ j (by omega)]
  rw [List.getD_eq_getElem?_getD, List.getD_eq_getElem?_getD, List.getElem?_take, if_pos hj]
theorem FR.all {W : World} {b n c : Nat} {xs : List Int} (h : FR W b n c xs) : Kd.C (Kd.int .u8) W (some ⟨b, 0, none⟩) n xs := by
  have := h.cut n (Nat.le_refl _)
  rwa [List.take_of_length_le (by rw [h.1]; exact Nat.le_refl _)] at this
theorem FR.set {W : World} {b n c : Nat} {xs : List Int} (h : FR W b n c xs) (i : Nat) (hi : i < n) (v : Int) : Kd.C (Kd.int .u8) (W.setCell ⟨b, i, none⟩ (.int .u8 v)) (some ⟨b, 0, none⟩) n (xs.set i v) := by
  have h1 := h.1
  have h6 := h.2.2.1
  have h7 := h.2.1
  refine C_ofcells (by rw [List.length_set]; exact h1) (by omega) (fun j hj => ?_)
  have ha := h.at_ j hj
  obtain ⟨_, _, _, cur, fz, hg, h3, h4, h5⟩ := h
  rw [setCell_eq_setRow W b i cur 5 fz _ hg, cell_of_row _ b j _ 5 fz (setRow_heap W b cur _ 5 _ hg)]
  rw [cell_of_row W b j cur 5 fz hg] at ha
  by_cases e : i = j
  rotate_left
  · rw [Array.getElem?_setIfInBounds_ne e, ha]
    rw [List.getD_eq_getElem?_getD, List.getD_eq_getElem?_getD, List.getElem?_set_ne e]
  subst e
  rw [Array.getElem?_setIfInBounds_self_of_lt (by omega)]
  rw [List.getD_eq_getElem?_getD, List.getElem?_set_self (by omega)]; rfl
theorem FR.grown_set {W : World} {b n c : Nat} {xs : List Int} (h : FR W b n c xs) (i : Nat) (u : Value) : W.grownBy (W.setCell ⟨b, i, none⟩ u) (some b) := by
  obtain ⟨_, _, _, cur, fz, hg, h3, h4, h5⟩ := h
  exact ⟨rfl, rfl, rfl, by simp [World.setCell], fun k _ hk => Below.heap_setCell W ⟨b, i, none⟩ u k (fun e => hk (by rw [e]))⟩
section
variable {P : Program} {ops : Array Oper} {rest : List Oper} {o : Oper} {a : Act} {Q : Exit → Act → World → Prop}
theorem FR.run_append {W : World} {b n c : Nat} {xs : List Int} (h : FR W b n c xs) (t ty : TypeId) (i : TypeInfo) (ht : P.underlying t = some (.slice 5)) (hi : P.info? 5 = some i) (hz : i.zero = some (.int .u8 0)) (hs1 : i.size = 1) (hb1 : i.bytes = 1)
    (ad : Addr) (c1 : Nat) (v : Int) (hv : W.cell? (ad.add 0) = some (.int .u8 v)) (hbytes : n + 1 ≤ 140737488355328) :
    ∃ b' c' W', (Builtin.append_ #[t, t] ty #[.slice (some ⟨b, 0, none⟩) n c, .slice (some ad) 1 c1]).run P W = .ok (.slice (some ⟨b', 0, none⟩) (n + 1) c') W' ∧ Kd.C (Kd.int .u8) W' (some ⟨b', 0, none⟩) (n + 1) (xs ++ [v]) ∧ W.grownBy W' (some b) := by
  have h1 := h.1
  have h2 := h.2.1
  have h6 := h.2.2.1
  have hnews : ∀ j u, [Value.int .u8 v][j]? = some u → W.cell? (ad.add j) = some u := by
    intro j u hj
    match j, hj with
    | 0, hj => simp at hj; subst hj; exact hv
    | j + 1, hj => simp at hj
  have hl : [Value.int .u8 v].length = 1 * i.size := by rw [hs1]; rfl
  have hall := h.all
  by_cases hroom : n + 1 ≤ c
  · have ha := h.at_
    have hth := h.thaw n (by omega)
    obtain ⟨_, _, _, cur, fz, hg, h3, h4, h5⟩ := h
    have hf := run_firstCells_some (P := P) W i.size 1 ad 1 c1 [Value.int .u8 v] hl hnews
    have hcell : W.cell? ⟨b, n, none⟩ = some cur[n] := by simp [World.cell?, hg, (show n < cur.size by omega)]
    have hst : (storeCells ⟨b, n * i.size, none⟩ [Value.int .u8 v] 0).run P W = .ok () (W.setCell ⟨b, n, none⟩ (.int .u8 v)) := by
      rw [hs1, Nat.mul_one]
      have hadd : (⟨b, n, none⟩ : Addr).add 0 = ⟨b, n, none⟩ := by unfold Addr.add; simp
      simp only [storeCells, Sem.run_bind]
      rw [hadd, run_store P W _ _ _ rfl, hcell]
      simp [hth]
    have hn0 := FR.grown_set (W := W) (b := b) (n := n) (c := c) (xs := xs) ⟨h1, h2, h6, cur, fz, hg, h3, h4, h5⟩ n (.int .u8 v)
    refine ⟨b, c, W.setCell ⟨b, n, none⟩ (.int .u8 v), ?_, ?_, hn0⟩
    · simp [Builtin.append_, run_underlying ht, sizeOf, typeInfo, hi, Builtin.lenOf, hroom, hf, Addr.add_lit, hst]
    · refine C_ofcells (by simp [h1]) (by omega) (fun j hj => ?_)
      rw [setCell_eq_setRow W b n cur 5 fz _ hg, cell_of_row _ b j _ 5 fz (setRow_heap W b cur _ 5 _ hg)]
      by_cases e : n = j
      · subst e
        rw [Array.getElem?_setIfInBounds_self_of_lt (by omega)]
        rw [List.getD_eq_getElem?_getD, List.getElem?_append_right (by omega), h1, Nat.sub_self]; rfl
      have hj' := ha j (by omega)
      rw [cell_of_row W b j cur 5 fz hg] at hj'
      rw [Array.getElem?_setIfInBounds_ne e, hj', List.getD_eq_getElem?_getD, List.getD_eq_getElem?_getD, List.getElem?_append_left (by omega)]
  have holds : ∀ j u, (nums .u8 xs)[j]? = some u → W.cell? ((⟨b, 0, none⟩ : Addr).add j) = some u := by
    intro j u hj
    have hj0 : j < xs.length := by
      have := (List.getElem?_eq_some_iff.1 hj).1
      rwa [nums_length] at this
    rw [add_plain, h.at_ j (by omega)]
    unfold nums at hj
    rw [List.getElem?_map, List.getElem?_eq_getElem hj0] at hj
    rw [List.getD_eq_getElem?_getD, List.getElem?_eq_getElem hj0]
    exact hj
  have hr := run_append_grow (P := P) W t ty 5 i (.int .u8 0) ht hi hz ⟨b, 0, none⟩ n c (nums .u8 xs) (by rw [nums_length, h1, hs1, Nat.mul_one]) holds ad 1 c1 [Value.int .u8 v] hl hnews (by omega) (by simp only [maxLen] at h6; omega) (growslice_fits (by omega) (by rw [hb1]; omega))
  have hge := grownCap_ge W (n + 1) c 5
  refine ⟨_, _, _, hr, ?_, ⟨rfl, rfl, rfl, by simp, fun k hk _ => heap_alloc_old W.drew _ hk⟩⟩
  refine C_ofcells (by simp [h1]) (by simp only [maxLen] at h6 ⊢; omega) (fun j hj => ?_)
  have hnew := heap_alloc_new W.drew (.cells ((nums .u8 xs).toArray ++ [Value.int .u8 v].toArray ++ Builtin.zeroCells (Value.int .u8 0).cells (grownCap W (n + 1) c 5 - (n + 1))) 5)
  rw [show (⟨W.heap.size, j, none⟩ : Addr) = ⟨W.drew.heap.size, j, none⟩ from rfl, cell_of_row _ _ j _ 5 (0, 0) hnew]
  rw [Array.getElem?_append_left (by simp [nums_length, h1]; omega)]
  have e : (nums .u8 xs).toArray ++ [Value.int .u8 v].toArray = ((nums .u8 xs) ++ [Value.int .u8 v]).toArray := by simp
  rw [e, List.getElem?_toArray]
  have e2 : nums .u8 xs ++ [Value.int .u8 v] = nums .u8 (xs ++ [v]) := by rw [nums_append]; rfl
  rw [e2]
  unfold nums
  rw [List.getElem?_map, List.getD_eq_getElem?_getD, List.getElem?_eq_getElem (by simp; omega)]
  rfl
theorem FR.append {W : World} {b n c : Nat} {xs : List Int} (h : FR W b n c xs) (hgd : o.guard = none) (s x : Operand) (t : TypeId) (ho : o.op = .call { callee := .builtin .append, args := #[s, x], argTypes := #[t, t] }) (i : TypeInfo) (ht : P.underlying t = some (.slice 5)) (hi : P.info? 5 = some i) (hz : i.zero = some (.int .u8 0)) (hs1 : i.size = 1) (hb1 : i.bytes = 1)
    (hs : a.eval s = .slice (some ⟨b, 0, none⟩) n c) (ad : Addr) (c1 : Nat) (v : Int) (hx : a.eval x = .slice (some ad) 1 c1) (hv : W.cell? (ad.add 0) = some (.int .u8 v)) (hbytes : n + 1 ≤ 140737488355328)
    (hk : ∀ b' c' W', Kd.C (Kd.int .u8) W' (some ⟨b', 0, none⟩) (n + 1) (xs ++ [v]) → W.grownBy W' (some b) → wpList P ops Q rest (a.put o.dst (.slice (some ⟨b', 0, none⟩) (n + 1) c')) W') : wpList P ops Q (o :: rest) a W := by
  obtain ⟨b', c', W', hr, h1, h2⟩ := h.run_append (P := P) t o.type i ht hi hz hs1 hb1 ad c1 v hv hbytes
  refine wpList_plain hgd fun K hK => ?_
  unfold Oper.wp execOp
  simp only [ho, resolve, invoke, builtin, Sem.run_bind, Sem.run_pure, Result.andThen_ok, List.map_toArray, List.map_cons, List.map_nil, hs, hx, hr]
  exact hK _ _ (hk b' c' W' h1 h2)
theorem FR.bytes {W : World} (hgd : o.guard = none) {N : Tmp} (_hd : o.dst = some N) (src dst : TypeId) {u : TypeDesc} (x : Operand) (ho : o.op = .convert src dst x) (s : ByteArray) (hx : a.eval x = .string s)
    (hs : P.underlying src = some u) (hdst : P.underlying dst = some (.slice 5)) (he : P.underlying 5 = some (.int .u8)) (hl : s.size ≤ maxLen)
    (h : ∀ (b c : Nat) (w1 : World), FR w1 b s.size c (bytesOf s) → W.heap.size ≤ b → Below W.heap.size W w1 → wpList P ops Q rest (a.put o.dst (.slice (some ⟨b, 0, none⟩) s.size c)) w1) : wpList P ops Q (o :: rest) a W := by
  have hr := print_bytes (P := P) src dst 5 hs hdst he s W
  refine Kd.event_run hgd (v := .slice (some ⟨W.heap.size, 0, none⟩) s.size (grownCap W s.size 0 5)) (w1 := Lib.bytesWorld W 5 s) (by simp [execOp, ho, hx, hr]) ?_
  exact h _ _ _ (FR.new W s hl) (Nat.le_refl _) (bytes_below (Below.refl _ _) (Nat.le_refl _) 5 s)
end
def spec_l01Src_spoil.f (s0_0 : List Int) (s0_1 : Int) (s0_2 : Int) (a1 : ByteArray) : Option (ByteArray × Int × Int) := if a1.size ≤ 35184372088832 then ((spec_l01Src_next.f s0_0 s0_1 s0_2 3).bind fun bt => if bt.1 = 0 then ((spec_l01Src_byte.f s0_0 bt.2.1 bt.2.2).bind fun b2 => some (strOfNums (bytesOf a1 ++ [b2.1 % 256]), b2.2.1, b2.2.2)) else if bt.1 = 1 then (if 0 < (a1.size : Int) then ((spec_l01Src_next.f s0_0 bt.2.1 bt.2.2 (a1.size : Int)).bind fun b2 => if 0 ≤ b2.1 then (if b2.1 ≤ (a1.size : Int) then some (strOfNums ((bytesOf a1).take b2.1.toNat), b2.2.1, b2.2.2) else none) else none) else some (strOfNums (bytesOf a1), bt.2.1, bt.2.2)) else (if 0 < (a1.size : Int) then ((spec_l01Src_next.f s0_0 bt.2.1 bt.2.2 (a1.size : Int)).bind fun b2 => (spec_l01Src_byte.f s0_0 b2.2.1 b2.2.2).bind fun b3 => if 0 ≤ b2.1 then (if b2.1 < (a1.size : Int) then some (strOfNums ((bytesOf a1).set b2.1.toNat (b3.1 % 256)), b3.2.1, b3.2.2) else none) else none) else some (strOfNums (bytesOf a1), bt.2.1, bt.2.2))) else none
theorem spec_l01Src_spoil.cell_new (w : World) (a : Value) (t : TypeId) : (w.alloc (.cells #[a] t)).cell? ((⟨w.heap.size, 0, none⟩ : Addr).add 0) = some a := by
  simp [Addr.add]
theorem spec_l01Src_spoil.info5 : (Tryd.prog.info? 5).map (fun i => (i.zero, i.size, i.bytes)) = some (some (.int .u8 0), 1, 1) := by kernel_rfl
set_option maxRecDepth 1000000 in
set_option maxHeartbeats 2000000 in
theorem spec_l01Src_spoil.arm0 (g : Nat) (s0_0 : List Int) (s0_1 : Int) (s0_2 : Int) (a1 : ByteArray) (t2 t3 v r2 r3 : Int) (w0 w : World) (hI : IsS127 w0 w g s0_0 s0_1 s0_2) (hB : Below w0.heap.size w0 w) (hs : a1.size ≤ 35184372088832)
    (A1 : spec_l01Src_next.f s0_0 s0_1 s0_2 3 = some (0, t2, t3)) (A2 : spec_l01Src_byte.f s0_0 t2 t3 = some (v, r2, r3)) :
    Calls Tryd.prog 61 #[.pointer (some ⟨g, 0, none⟩), .string a1] w fun e w' => e = .returned (.string (strOfNums (bytesOf a1 ++ [v % 256]))) ∧ IsS127 w0 w' g s0_0 r2 r3 ∧ Below w0.heap.size w0 w' ∧ KeepBut w w' g none := by
  obtain ⟨i0, hi0, hz0, hz1, hz2⟩ := info_parts spec_l01Src_spoil.info5
  have HI := Aside0.mk hI
  have HB := Aside0.mk hB
  have HS := Aside0.mk hs
  have HA1 := Aside0.mk A1
  have HA2 := Aside0.mk A2
  clear hI hB hs A1 A2
  go_enter Tryd.func61, Tryd.ntmps61
  go_wp2_with (first
    | ((with_reducible refine gate_dst (N := 7) rfl ?_); refine FR.bytes rfl (N := 7) rfl 9 33 _ rfl a1 rfl Tryd.underlying9 Tryd.underlying33 Tryd.underlying5 (by have := HS.out; simp only [maxLen]; omega) ?_; intro b c wb hF hge hb; have HF := Aside0.mk hF; have HG := Aside0.mk hge; have HI1 := Aside0.mk (HI.out.below hb); have HB1 := Aside0.mk (below_step HB.out hb); have HK1 := Aside0.mk (KeepBut.of_below hb g none); clear hF hb hge)
    | ((with_reducible refine gate_callee (f := 60) rfl ?_); refine goesL_ (some 9) rfl rfl Tryd.func60 (by kernel_rfl) rfl #[.pointer (some ⟨g, 0, none⟩), .int .i64 3] rfl (by (try simp only [List.map_toArray, List.map_cons, List.map_nil]); first | done | rfl) ?_; (with_reducible refine (spec_l01Src_next.calls g s0_0 s0_1 s0_2 3 0 t2 t3 w0 _ HI1.out HB1.out HA1.out).mono ?_); rintro e w2 ⟨rfl, hi, hb, hk⟩; refine ⟨_, rfl, ?_⟩; have HF2 := Aside0.mk (HF.out.keep hk (HF.out.ne HI1.out)); have HI2 := Aside0.mk hi; have HB2 := Aside0.mk hb; have HK2 := Aside0.mk (HK1.out.trans hk (.inl rfl)); clear HF HI1 HB1 HK1 hi hb hk)
    | ((with_reducible refine gate_callee (f := 103) rfl ?_); refine goesL_ (some 26) rfl rfl Tryd.func103 (by kernel_rfl) rfl #[.pointer (some ⟨g, 0, none⟩)] rfl (by (try simp only [List.map_toArray, List.map_cons, List.map_nil]); first | done | rfl) ?_; (with_reducible refine (spec_l01Src_byte.calls g s0_0 t2 t3 v r2 r3 w0 _ HI2.out HB2.out HA2.out).mono ?_); rintro e w3 ⟨rfl, hi, hb, hk⟩; refine ⟨_, rfl, ?_⟩; have HF3 := Aside0.mk (HF2.out.keep hk (HF2.out.ne HI2.out)); have HI3 := Aside0.mk hi; have HB3 := Aside0.mk hb; have HK3 := Aside0.mk (HK2.out.trans hk (.inl rfl)); clear HF2 HI2 HB2 HK2 hi hb hk)
    | (at_builtin; refine FR.append (HF3.out.alloc _) rfl _ _ 33 rfl i0 Tryd.underlying33 hi0 hz0 hz1 hz2 rfl ⟨w3.heap.size, 0, none⟩ 1 _ rfl (spec_l01Src_spoil.cell_new w3 _ 5) (by have := HS.out; omega) ?_; intro b' c' w4 hC hg; have hcv := Kd.C_string (P := Tryd.prog) (c := c') Tryd.underlying33 Tryd.underlying5 Tryd.underlying9 hC; have HI4 := Aside0.mk ((HI3.out.alloc _).grown hg (fun e => HF3.out.ne HI3.out (Option.some.inj e).symm)); have HB4 := Aside0.mk (Below.grown (below_alloc HB3.out _) hg (Nat.le_trans HB3.out.size (by simp)) (fun j hj => by cases hj; exact Nat.le_trans HB.out.size HG.out)); have HK4 := Aside0.mk ((keep_alloc HK3.out _).trans (KeepBut.of_grown hg g) (.inr ⟨b, rfl, HG.out⟩)); clear hC hg HF3 HI3 HB3 HK3))
  go_ret
  exact ⟨rfl, HI4.out, HB4.out, HK4.out⟩
set_option maxRecDepth 1000000 in
set_option maxHeartbeats 2000000 in
theorem spec_l01Src_spoil.arm1 (g : Nat) (s0_0 : List Int) (s0_1 : Int) (s0_2 : Int) (a1 : ByteArray) (t2 t3 v r2 r3 : Int) (w0 w : World) (hI : IsS127 w0 w g s0_0 s0_1 s0_2) (hB : Below w0.heap.size w0 w) (hs : a1.size ≤ 35184372088832)
    (A1 : spec_l01Src_next.f s0_0 s0_1 s0_2 3 = some (1, t2, t3)) (hp : (0 : Int) < (a1.size : Int)) (A2 : spec_l01Src_next.f s0_0 t2 t3 (a1.size : Int) = some (v, r2, r3)) (hv0 : 0 ≤ v) (hv1 : v ≤ (a1.size : Int)) :
    Calls Tryd.prog 61 #[.pointer (some ⟨g, 0, none⟩), .string a1] w fun e w' => e = .returned (.string (strOfNums ((bytesOf a1).take v.toNat))) ∧ IsS127 w0 w' g s0_0 r2 r3 ∧ Below w0.heap.size w0 w' ∧ KeepBut w w' g none := by
  obtain ⟨i0, hi0, hz0, hz1, hz2⟩ := info_parts spec_l01Src_spoil.info5
  have HI := Aside0.mk hI
  have HB := Aside0.mk hB
  have HS := Aside0.mk hs
  clear hI hB hs
  have HA1 := Aside0.mk A1
  have HA2 := Aside0.mk A2
  clear A1 A2
  have d1 : decide ((0 : Int) < (a1.size : Int)) = true := decide_eq_true hp
  have d2 : decide (0 < a1.size) = true := decide_eq_true (by omega)
  have HV0 := Aside0.mk hv0
  have HV1 := Aside0.mk hv1
  clear hv0 hv1 hp
  go_enter Tryd.func61, Tryd.ntmps61
  go_wp2_with (first
    | ((with_reducible refine gate_dst (N := 7) rfl ?_); refine FR.bytes rfl (N := 7) rfl 9 33 _ rfl a1 rfl Tryd.underlying9 Tryd.underlying33 Tryd.underlying5 (by have := HS.out; simp only [maxLen]; omega) ?_; intro b c wb hF hge hb; have HF := Aside0.mk hF; have HG := Aside0.mk hge; have HI1 := Aside0.mk (HI.out.below hb); have HB1 := Aside0.mk (below_step HB.out hb); have HK1 := Aside0.mk (KeepBut.of_below hb g none); clear hF hb hge)
    | ((with_reducible refine gate_callee (f := 60) rfl ?_); refine goesL_ (some 9) rfl rfl Tryd.func60 (by kernel_rfl) rfl #[.pointer (some ⟨g, 0, none⟩), .int .i64 3] rfl (by (try simp only [List.map_toArray, List.map_cons, List.map_nil]); first | done | rfl) ?_; (with_reducible refine (spec_l01Src_next.calls g s0_0 s0_1 s0_2 3 1 t2 t3 w0 _ HI1.out HB1.out HA1.out).mono ?_); rintro e w2 ⟨rfl, hi, hb, hk⟩; refine ⟨_, rfl, ?_⟩; have HF2 := Aside0.mk (HF.out.keep hk (HF.out.ne HI1.out)); have HI2 := Aside0.mk hi; have HB2 := Aside0.mk hb; have HK2 := Aside0.mk (HK1.out.trans hk (.inl rfl)); clear HF HI1 HB1 HK1 hi hb hk)
    | ((with_reducible refine gate_callee (f := 60) rfl ?_); refine goesL_ (some 39) rfl rfl Tryd.func60 (by kernel_rfl) rfl #[.pointer (some ⟨g, 0, none⟩), .int .i64 (a1.size : Int)] rfl (by (try simp only [List.map_toArray, List.map_cons, List.map_nil]); first | done | rfl) ?_; (with_reducible refine (spec_l01Src_next.calls g s0_0 t2 t3 (a1.size : Int) v r2 r3 w0 _ HI2.out HB2.out HA2.out).mono ?_); rintro e w3 ⟨rfl, hi, hb, hk⟩; refine ⟨_, rfl, ?_⟩; have HF3 := Aside0.mk (HF2.out.keep hk (HF2.out.ne HI2.out)); have HI3 := Aside0.mk hi; have HB3 := Aside0.mk hb; have HK3 := Aside0.mk (HK2.out.trans hk (.inl rfl)); clear HF2 HI2 HB2 HK2 hi hb hk; have hcut : ∀ W, (Instr.slice 33 (.slice (some ⟨b, 0, none⟩) a1.size c) none (some (.int .i64 v)) none).run Tryd.prog W = .ok (.slice (some ⟨b, 0, none⟩) v.toNat c) W := fun W => by
        have h_ := (print_take_int (k := .u8) 33 5 Tryd.underlying33 hi0 hz1 (some ⟨b, 0, none⟩) c (bytesOf a1) v HV0.out (by rw [bytesOf_length]; exact HV1.out) (by rw [bytesOf_length]; exact HF3.out.2.1)).1 W
        rw [bytesOf_length, List.length_take, bytesOf_length, Nat.min_eq_left (by have := HV1.out; omega)] at h_
        exact h_
       have hcv := Kd.C_string (P := Tryd.prog) (c := c) Tryd.underlying33 Tryd.underlying5 Tryd.underlying9 (HF3.out.cut v.toNat (by have := HV1.out; omega))))
  go_ret
  exact ⟨rfl, HI3.out, HB3.out, HK3.out⟩
set_option maxRecDepth 1000000 in
set_option maxHeartbeats 2000000 in
theorem spec_l01Src_spoil.arm1z (g : Nat) (s0_0 : List Int) (s0_1 : Int) (s0_2 : Int) (a1 : ByteArray) (t2 t3 : Int) (w0 w : World) (hI : IsS127 w0 w g s0_0 s0_1 s0_2) (hB : Below w0.heap.size w0 w) (hs : a1.size ≤ 35184372088832)
    (A1 : spec_l01Src_next.f s0_0 s0_1 s0_2 3 = some (1, t2, t3)) (hp : ¬ (0 : Int) < (a1.size : Int)) :
    Calls Tryd.prog 61 #[.pointer (some ⟨g, 0, none⟩), .string a1] w fun e w' => e = .returned (.string (strOfNums (bytesOf a1))) ∧ IsS127 w0 w' g s0_0 t2 t3 ∧ Below w0.heap.size w0 w' ∧ KeepBut w w' g none := by
  obtain ⟨i0, hi0, hz0, hz1, hz2⟩ := info_parts spec_l01Src_spoil.info5
  have HI := Aside0.mk hI
  have HB := Aside0.mk hB
  have HS := Aside0.mk hs
  clear hI hB hs
  have d1 : decide ((0 : Int) < (a1.size : Int)) = false := decide_eq_false hp
  have d2 : decide (0 < a1.size) = false := decide_eq_false (by omega)
  clear hp
  have HA1 := Aside0.mk A1
  clear A1
  go_enter Tryd.func61, Tryd.ntmps61
  go_wp2_with (first
    | ((with_reducible refine gate_dst (N := 7) rfl ?_); refine FR.bytes rfl (N := 7) rfl 9 33 _ rfl a1 rfl Tryd.underlying9 Tryd.underlying33 Tryd.underlying5 (by have := HS.out; simp only [maxLen]; omega) ?_; intro b c wb hF hge hb; have HF := Aside0.mk hF; have HG := Aside0.mk hge; have HI1 := Aside0.mk (HI.out.below hb); have HB1 := Aside0.mk (below_step HB.out hb); have HK1 := Aside0.mk (KeepBut.of_below hb g none); clear hF hb hge)
    | ((with_reducible refine gate_callee (f := 60) rfl ?_); refine goesL_ (some 9) rfl rfl Tryd.func60 (by kernel_rfl) rfl #[.pointer (some ⟨g, 0, none⟩), .int .i64 3] rfl (by (try simp only [List.map_toArray, List.map_cons, List.map_nil]); first | done | rfl) ?_; (with_reducible refine (spec_l01Src_next.calls g s0_0 s0_1 s0_2 3 1 t2 t3 w0 _ HI1.out HB1.out HA1.out).mono ?_); rintro e w2 ⟨rfl, hi, hb, hk⟩; refine ⟨_, rfl, ?_⟩; have HF2 := Aside0.mk (HF.out.keep hk (HF.out.ne HI1.out)); have HI2 := Aside0.mk hi; have HB2 := Aside0.mk hb; have HK2 := Aside0.mk (HK1.out.trans hk (.inl rfl)); clear HF HI1 HB1 HK1 hi hb hk; have hcv := Kd.C_string (P := Tryd.prog) (c := c) Tryd.underlying33 Tryd.underlying5 Tryd.underlying9 HF2.out.all))
  go_ret
  exact ⟨rfl, HI2.out, HB2.out, HK2.out⟩
set_option maxRecDepth 1000000 in
set_option maxHeartbeats 2000000 in
theorem spec_l01Src_spoil.arm2z (g : Nat) (s0_0 : List Int) (s0_1 : Int) (s0_2 : Int) (a1 : ByteArray) (t1 t2 t3 : Int) (w0 w : World) (hI : IsS127 w0 w g s0_0 s0_1 s0_2) (hB : Below w0.heap.size w0 w) (hs : a1.size ≤ 35184372088832)
    (A1 : spec_l01Src_next.f s0_0 s0_1 s0_2 3 = some (t1, t2, t3)) (h0 : ¬ t1 = 0) (h1 : ¬ t1 = 1) (hp : ¬ (0 : Int) < (a1.size : Int)) :
    Calls Tryd.prog 61 #[.pointer (some ⟨g, 0, none⟩), .string a1] w fun e w' => e = .returned (.string (strOfNums (bytesOf a1))) ∧ IsS127 w0 w' g s0_0 t2 t3 ∧ Below w0.heap.size w0 w' ∧ KeepBut w w' g none := by
  obtain ⟨i0, hi0, hz0, hz1, hz2⟩ := info_parts spec_l01Src_spoil.info5
  have HI := Aside0.mk hI
  have HB := Aside0.mk hB
  have HS := Aside0.mk hs
  clear hI hB hs
  have d1 : decide ((0 : Int) < (a1.size : Int)) = false := decide_eq_false hp
  have d2 : decide (0 < a1.size) = false := decide_eq_false (by omega)
  clear hp
  have HA1 := Aside0.mk A1
  clear A1
  have e0 : (t1 == 0) = false := by simpa using h0
  have e1 : (t1 == 1) = false := by simpa using h1
  have e2 : decide (t1 = 0) = false := decide_eq_false h0
  have e3 : decide (t1 = 1) = false := decide_eq_false h1
  clear h0 h1
  go_enter Tryd.func61, Tryd.ntmps61
  go_wp2_with (first
    | ((with_reducible refine gate_dst (N := 7) rfl ?_); refine FR.bytes rfl (N := 7) rfl 9 33 _ rfl a1 rfl Tryd.underlying9 Tryd.underlying33 Tryd.underlying5 (by have := HS.out; simp only [maxLen]; omega) ?_; intro b c wb hF hge hb; have HF := Aside0.mk hF; have HG := Aside0.mk hge; have HI1 := Aside0.mk (HI.out.below hb); have HB1 := Aside0.mk (below_step HB.out hb); have HK1 := Aside0.mk (KeepBut.of_below hb g none); clear hF hb hge)
    | ((with_reducible refine gate_callee (f := 60) rfl ?_); refine goesL_ (some 9) rfl rfl Tryd.func60 (by kernel_rfl) rfl #[.pointer (some ⟨g, 0, none⟩), .int .i64 3] rfl (by (try simp only [List.map_toArray, List.map_cons, List.map_nil]); first | done | rfl) ?_; (with_reducible refine (spec_l01Src_next.calls g s0_0 s0_1 s0_2 3 t1 t2 t3 w0 _ HI1.out HB1.out HA1.out).mono ?_); rintro e w2 ⟨rfl, hi, hb, hk⟩; refine ⟨_, rfl, ?_⟩; have HF2 := Aside0.mk (HF.out.keep hk (HF.out.ne HI1.out)); have HI2 := Aside0.mk hi; have HB2 := Aside0.mk hb; have HK2 := Aside0.mk (HK1.out.trans hk (.inl rfl)); clear HF HI1 HB1 HK1 hi hb hk; have hcv := Kd.C_string (P := Tryd.prog) (c := c) Tryd.underlying33 Tryd.underlying5 Tryd.underlying9 HF2.out.all))
  go_ret
  exact ⟨rfl, HI2.out, HB2.out, HK2.out⟩
set_option maxRecDepth 1000000 in
set_option maxHeartbeats 2000000 in
theorem spec_l01Src_spoil.arm2 (g : Nat) (s0_0 : List Int) (s0_1 : Int) (s0_2 : Int) (a1 : ByteArray) (t1 t2 t3 v u2 u3 x r2 r3 : Int) (w0 w : World) (hI : IsS127 w0 w g s0_0 s0_1 s0_2) (hB : Below w0.heap.size w0 w) (hs : a1.size ≤ 35184372088832)
    (A1 : spec_l01Src_next.f s0_0 s0_1 s0_2 3 = some (t1, t2, t3)) (h0 : ¬ t1 = 0) (h1 : ¬ t1 = 1) (hp : (0 : Int) < (a1.size : Int)) (A2 : spec_l01Src_next.f s0_0 t2 t3 (a1.size : Int) = some (v, u2, u3)) (A3 : spec_l01Src_byte.f s0_0 u2 u3 = some (x, r2, r3)) (hv0 : 0 ≤ v) (hv1 : v < (a1.size : Int)) :
    Calls Tryd.prog 61 #[.pointer (some ⟨g, 0, none⟩), .string a1] w fun e w' => e = .returned (.string (strOfNums ((bytesOf a1).set v.toNat (x % 256)))) ∧ IsS127 w0 w' g s0_0 r2 r3 ∧ Below w0.heap.size w0 w' ∧ KeepBut w w' g none := by
  obtain ⟨i0, hi0, hz0, hz1, hz2⟩ := info_parts spec_l01Src_spoil.info5
  have HI := Aside0.mk hI
  have HB := Aside0.mk hB
  have HS := Aside0.mk hs
  clear hI hB hs
  have HA1 := Aside0.mk A1
  have HA2 := Aside0.mk A2
  clear A1 A2
  have HA3 := Aside0.mk A3
  clear A3
  have d1 : decide ((0 : Int) < (a1.size : Int)) = true := decide_eq_true hp
  have d2 : decide (0 < a1.size) = true := decide_eq_true (by omega)
  have e0 : (t1 == 0) = false := by simpa using h0
  have e1 : (t1 == 1) = false := by simpa using h1
  have e2 : decide (t1 = 0) = false := decide_eq_false h0
  have e3 : decide (t1 = 1) = false := decide_eq_false h1
  clear h0 h1
  have HV0 := Aside0.mk hv0
  have HV1 := Aside0.mk hv1
  clear hv0 hv1 hp
  go_enter Tryd.func61, Tryd.ntmps61
  go_wp2_with (first
    | ((with_reducible refine gate_dst (N := 7) rfl ?_); refine FR.bytes rfl (N := 7) rfl 9 33 _ rfl a1 rfl Tryd.underlying9 Tryd.underlying33 Tryd.underlying5 (by have := HS.out; simp only [maxLen]; omega) ?_; intro b c wb hF hge hb; have HF := Aside0.mk hF; have HG := Aside0.mk hge; have HI1 := Aside0.mk (HI.out.below hb); have HB1 := Aside0.mk (below_step HB.out hb); have HK1 := Aside0.mk (KeepBut.of_below hb g none); clear hF hb hge)
    | ((with_reducible refine gate_callee (f := 60) rfl ?_); refine goesL_ (some 9) rfl rfl Tryd.func60 (by kernel_rfl) rfl #[.pointer (some ⟨g, 0, none⟩), .int .i64 3] rfl (by (try simp only [List.map_toArray, List.map_cons, List.map_nil]); first | done | rfl) ?_; (with_reducible refine (spec_l01Src_next.calls g s0_0 s0_1 s0_2 3 t1 t2 t3 w0 _ HI1.out HB1.out HA1.out).mono ?_); rintro e w2 ⟨rfl, hi, hb, hk⟩; refine ⟨_, rfl, ?_⟩; have HF2 := Aside0.mk (HF.out.keep hk (HF.out.ne HI1.out)); have HI2 := Aside0.mk hi; have HB2 := Aside0.mk hb; have HK2 := Aside0.mk (HK1.out.trans hk (.inl rfl)); clear HF HI1 HB1 HK1 hi hb hk)
    | ((with_reducible refine gate_callee (f := 60) rfl ?_); refine goesL_ (some 17) rfl rfl Tryd.func60 (by kernel_rfl) rfl #[.pointer (some ⟨g, 0, none⟩), .int .i64 (a1.size : Int)] rfl (by (try simp only [List.map_toArray, List.map_cons, List.map_nil]); first | done | rfl) ?_; (with_reducible refine (spec_l01Src_next.calls g s0_0 t2 t3 (a1.size : Int) v u2 u3 w0 _ HI2.out HB2.out HA2.out).mono ?_); rintro e w3 ⟨rfl, hi, hb, hk⟩; refine ⟨_, rfl, ?_⟩; have HF3 := Aside0.mk (HF2.out.keep hk (HF2.out.ne HI2.out)); have HI3 := Aside0.mk hi; have HB3 := Aside0.mk hb; have HK3 := Aside0.mk (HK2.out.trans hk (.inl rfl)); clear HF2 HI2 HB2 HK2 hi hb hk)
    | (go_at_call 103; (with_reducible refine (spec_l01Src_byte.calls g s0_0 u2 u3 x r2 r3 w0 _ HI3.out HB3.out HA3.out).mono ?_); rintro e w4 ⟨rfl, hi, hb, hk⟩; have HF4 := Aside0.mk (HF3.out.keep hk (HF3.out.ne HI3.out)); have HI4 := Aside0.mk hi; have HB4 := Aside0.mk hb; have HK4 := Aside0.mk (HK3.out.trans hk (.inl rfl)); clear HF3 HI3 HB3 HK3 hi hb hk; have hx := HF4.out.at_ v.toNat (by have := HV1.out; have := HV0.out; omega); have hfz := HF4.out.thaw v.toNat (by have := HV1.out; have := HV0.out; have := HF4.out.2.1; omega); have p1 := eq_true HV0.out; have p2 := eq_true HV1.out; have p3 := decide_eq_true HV0.out; have p4 := decide_eq_true HV1.out; have hcv := Kd.C_string (P := Tryd.prog) (c := c) Tryd.underlying33 Tryd.underlying5 Tryd.underlying9 (HF4.out.set v.toNat (by have := HV1.out; have := HV0.out; omega) (x % 256))))
  go_ret
  exact ⟨rfl, HI4.out.grown (HF4.out.grown_set _ _) (fun e => HF4.out.ne HI4.out (Option.some.inj e).symm), Below.grown HB4.out (HF4.out.grown_set _ _) HB4.out.size (fun j hj => by cases hj; exact Nat.le_trans HB.out.size HG.out), HK4.out.trans (KeepBut.of_grown (HF4.out.grown_set _ _) g) (.inr ⟨b, rfl, HG.out⟩)⟩
theorem spec_l01Src_spoil.calls (g : Nat) (s0_0 : List Int) (s0_1 : Int) (s0_2 : Int) (a1 : ByteArray) (r1 : ByteArray) (r2 : Int) (r3 : Int) (w0 w : World) (hI : IsS127 w0 w g s0_0 s0_1 s0_2) (hB : Below w0.heap.size w0 w) (h : spec_l01Src_spoil.f s0_0 s0_1 s0_2 a1 = some (r1, r2, r3)) :
    Calls Tryd.prog 61 #[.pointer (some ⟨g, 0, none⟩), .string a1] w fun e w' => e = .returned (.string r1) ∧ IsS127 w0 w' g s0_0 r2 r3 ∧ Below w0.heap.size w0 w' ∧ KeepBut w w' g none := by
  unfold spec_l01Src_spoil.f at h
  by_cases hs : a1.size ≤ 35184372088832
  rotate_left
  · rw [if_neg hs] at h; cases h

  rw [if_pos hs] at h
  obtain ⟨⟨t1, t2, t3⟩, A1, h⟩ := Option.bind_eq_some_iff.mp h
  simp only at h
  by_cases h0 : t1 = 0
  · subst h0
    rw [if_pos rfl] at h
    obtain ⟨⟨v, u2, u3⟩, A2, h⟩ := Option.bind_eq_some_iff.mp h
    simp only [Option.some.injEq, Prod.mk.injEq] at h
    obtain ⟨rfl, rfl, rfl⟩ := h
    exact spec_l01Src_spoil.arm0 g s0_0 s0_1 s0_2 a1 t2 t3 v u2 u3 w0 w hI hB hs A1 A2
  rw [if_neg h0] at h
  by_cases h1 : t1 = 1
  · subst h1
    rw [if_pos rfl] at h
    by_cases hp : (0 : Int) < (a1.size : Int)
    rotate_left
    · rw [if_neg hp] at h
      simp only [Option.some.injEq, Prod.mk.injEq] at h
      obtain ⟨rfl, rfl, rfl⟩ := h
      exact spec_l01Src_spoil.arm1z g s0_0 s0_1 s0_2 a1 t2 t3 w0 w hI hB hs A1 hp
    rw [if_pos hp] at h
    obtain ⟨⟨v, u2, u3⟩, A2, h⟩ := Option.bind_eq_some_iff.mp h
    simp only at h
    by_cases hv0 : 0 ≤ v
    rotate_left
    · rw [if_neg hv0] at h; cases h
    rw [if_pos hv0] at h
    by_cases hv1 : v ≤ (a1.size : Int)
    rotate_left
    · rw [if_neg hv1] at h; cases h
    rw [if_pos hv1] at h
    simp only [Option.some.injEq, Prod.mk.injEq] at h
    obtain ⟨rfl, rfl, rfl⟩ := h
    exact spec_l01Src_spoil.arm1 g s0_0 s0_1 s0_2 a1 t2 t3 v u2 u3 w0 w hI hB hs A1 hp A2 hv0 hv1
  rw [if_neg h1] at h
  by_cases hp : (0 : Int) < (a1.size : Int)
  rotate_left
  · rw [if_neg hp] at h
    simp only [Option.some.injEq, Prod.mk.injEq] at h
    obtain ⟨rfl, rfl, rfl⟩ := h
    exact spec_l01Src_spoil.arm2z g s0_0 s0_1 s0_2 a1 t1 t2 t3 w0 w hI hB hs A1 h0 h1 hp
  rw [if_pos hp] at h
  obtain ⟨⟨v, u2, u3⟩, A2, h⟩ := Option.bind_eq_some_iff.mp h
  simp only at h
  obtain ⟨⟨x, y2, y3⟩, A3, h⟩ := Option.bind_eq_some_iff.mp h
  simp only at h
  by_cases hv0 : 0 ≤ v
  rotate_left
  · rw [if_neg hv0] at h; cases h
  rw [if_pos hv0] at h
  by_cases hv1 : v < (a1.size : Int)
  rotate_left
  · rw [if_neg hv1] at h; cases h
  rw [if_pos hv1] at h
  simp only [Option.some.injEq, Prod.mk.injEq] at h
  obtain ⟨rfl, rfl, rfl⟩ := h
  exact spec_l01Src_spoil.arm2 g s0_0 s0_1 s0_2 a1 t1 t2 t3 v u2 u3 x y2 y3 w0 w hI hB hs A1 h0 h1 hp A2 A3 hv0 hv1
/-! ### spec_l01Repeat: function 62 -/
def spec_l01Repeat.l0 : Nat → ByteArray → Int → List Int → Int → Option (ByteArray)
  | 0, _, _, _, _ => none
  | k + 1, x0, x1, x5, x6 => if x6 < x1 then (if x5.length + x0.size < 140737488355328 then (spec_l01Repeat.l0 k x0 x1 (x5 ++ bytesOf x0) (wrap64 (x6 + 1))) else (none)) else (some (strOfNums x5))
def spec_l01Repeat.f (k : Nat) (a0 : ByteArray) (a1 : Int) : Option (ByteArray) := spec_l01Repeat.l0 k a0 a1 (([] : List Int)) 0
theorem spec_l01Repeat.mono_l : ∀ k, (∀ y0 y1 y2 y3, LeO (spec_l01Repeat.l0 k y0 y1 y2 y3) (spec_l01Repeat.l0 (k + 1) y0 y1 y2 y3))
  | 0 => fun _ _ _ _ r h => by simp [spec_l01Repeat.l0] at h
  | k + 1 => by
    have ih0 := spec_l01Repeat.mono_l k
    · intro y0 y1 y2 y3
      unfold spec_l01Repeat.l0
      repeat' first
      | (with_reducible exact ih0 _ _ _ _)
      | (with_reducible exact LeO.refl _)
      | (with_reducible exact LeO.none _)
      | (with_reducible refine LeO.ite ?_ ?_)
      | (with_reducible refine LeO.bind ?_ (fun _ => ?_))
theorem spec_l01Repeat.mono : ∀ a0 a1 k, LeO (spec_l01Repeat.f k a0 a1) (spec_l01Repeat.f (k + 1) a0 a1) := by
  intro a0 a1 k
  have ih0 := spec_l01Repeat.mono_l k
  unfold spec_l01Repeat.f
  repeat' first
      | (with_reducible exact ih0 _ _ _ _)
      | (with_reducible exact LeO.refl _)
      | (with_reducible exact LeO.none _)
      | (with_reducible refine LeO.ite ?_ ?_)
      | (with_reducible refine LeO.bind ?_ (fun _ => ?_))
set_option maxHeartbeats 8000000 in
set_option maxRecDepth 100000 in
theorem spec_l01Repeat.calls (k : Nat) (a0 : ByteArray) (a1 : Int) (r : ByteArray) (w : World) (h : spec_l01Repeat.f k a0 a1 = some r) :
    Calls Tryd.prog 62 #[.string a0, .int .i64 a1] w fun e w' => e = .returned (.string r) ∧ Below w.heap.size w w' := by
  have HB := Aside0.mk (Below.refl w.heap.size w)
  have H : (spec_l01Repeat.l0 k a0 a1 (([] : List Int)) 0) = some r := h
  clear h
  obtain ⟨y280, hy280⟩ : ∃ y_ : List Int, y_ = (([] : List Int)) := ⟨_, rfl⟩
  replace H : (spec_l01Repeat.l0 k a0 a1 y280 0) = some r := zby hy280 H
  have Ny280 := Aside0.mk hy280
  clear hy280
  have H' := Aside0.mk H
  clear H
  go_enter Tryd.func62, Tryd.ntmps62
  go_wp2_with (first | ((with_reducible refine gate_dst (N := 7) rfl ?_); refine Kd.R_lit (Kd.int .u8) _ 5 ?hg (N := 7) ?hd (xs := ([] : List Int)) (inner := []) (ok := fun _ => True) (okp := fun _ => True) ?hr ?hp (fun _ hk => hk) trivial (Below.refl _ _) (Nat.le_refl _) (by simp) ?_; (case hd => rfl); (case hg => rfl); (case hr => first | (go_simp; done) | (go_simp; rfl)); (case hp => exact (Reps.none _ _)); intro v281 w3 ho4 hb hg_ hnew_; clear hg_ hnew_; (first | rw [← Ny280.out] at ho4 | (simp only [Int.reduceToNat] at ho4; rw [← Ny280.out] at ho4)); have HO282 := Aside0.mk (Kd.R_lower ho4 (below_size (zh HB))); replace HB := Aside0.mk (below_step (zh HB) hb); clear hb ho4))
  go_loopg [5, 6] k (fun kq v5 v6 w' => ∃ (x5_1 : List Int) (x6_1 : Int), v6 = .int .i64 x6_1 ∧ Aside0 (spec_l01Repeat.l0 kq a0 a1 x5_1 x6_1 = some r) ∧ Aside0 (kq ≤ k) ∧ Aside0 (Kd.R (Kd.int .u8) 5 w' w.heap.size (fun _ => True) v5 x5_1) ∧ Aside0 (Below w.heap.size w w'))
  case atStart => exact ⟨(y280), (0), zrs, H', ⟨Nat.le_refl _⟩, ⟨zr HO282⟩, ⟨zh HB⟩⟩
  case round =>
    clear H'
    obtain ⟨x5_1, x6_1, rfl, HA, HK1, HO_5, HB⟩ := hrel
    cases gk with
    | zero => exact absurd HA.out (by simp [spec_l01Repeat.l0])
    | succ k1 =>
      have H := HA.out
      clear HA
      simp only [spec_l01Repeat.l0] at H
      by_cases c5 : x6_1 < a1
      rotate_left
      · rw [if_neg c5] at H
        have c5b0 : decide (x6_1 < a1) = false := decide_eq_false c5
        clear c5
        obtain rfl := Option.some.inj H
        have hcv8 := own_string (P := Tryd.prog) Tryd.underlying33 Tryd.underlying5 Tryd.underlying9 (Kd.own_of_R HO_5.out)
        go_wp2
        go_ret
        exact ⟨zre, zh HB⟩

      rw [if_pos c5] at H
      have c5b0 : decide (x6_1 < a1) = true := decide_eq_true c5
      clear c5
      by_cases c6 : x5_1.length + a0.size < 140737488355328
      rotate_left
      · rw [if_neg c6] at H
        exact absurd H (by simp)
      rw [if_pos c6] at H
      have LMc6 := Aside0.mk c6
      clear c6
      obtain ⟨y283, hy283⟩ : ∃ y_ : List Int, y_ = (x5_1 ++ bytesOf a0) := ⟨_, rfl⟩
      replace H : (spec_l01Repeat.l0 k1 a0 a1 y283 (wrap64 (x6_1 + 1))) = some r := zby hy283 H
      have Ny283 := Aside0.mk hy283
      clear hy283
      have H' := Aside0.mk H
      clear H
      go_wp2_with (first | (at_builtin; refine Kd.R_append_str (w0 := w) w.heap.size rfl (.tmp 13) _ 33 9 5 rfl Tryd.underlying33 Tryd.underlying9 info5 u5 x5_1 a0 (fun _ => True) rfl rfl ?aF ?aO ?aB ?aS ?aL ?_; (case aB => exact (zh HB)); (case aF => exact (fun _ _ => trivial)); (case aO => exact (zr HO_5)); (case aS => exact (below_size (zh HB))); (case aL => have := LMc6.out; omega); intro v284 w7 ho hb hg hat; rw [← Ny283.out] at ho; replace HB := Aside0.mk (hb); have HO285 := Aside0.mk (ho); clear HO_5; clear ho hb hg hat))
      go_roundg k1
      case measure => have := HK1.out; omega
      case rel => exact ⟨(y283), (wrap64 (x6_1 + 1)), zrs, H', ⟨by have := HK1.out; omega⟩, ⟨zr HO285⟩, ⟨zh HB⟩⟩
/-! ### spec_l01Src_chance: function 63 -/
def spec_l01Src_chance.f (s0_0 : List Int) (s0_1 : Int) (s0_2 : Int) (a1 : Int) : Option (Bool × Int × Int) := (spec_l01Src_next.f s0_0 s0_1 s0_2 a1).bind fun bt286 => (some ((bt286.1 == (wrap64 (a1 - 1))), bt286.2.1, bt286.2.2))
set_option maxHeartbeats 8000000 in
set_option maxRecDepth 100000 in
theorem spec_l01Src_chance.calls (g : Nat) (s0_0 : List Int) (s0_1 : Int) (s0_2 : Int) (a1 : Int) (r1 : Bool) (r2 : Int) (r3 : Int) (w0 w : World) (hI : IsS127 w0 w g s0_0 s0_1 s0_2) (hB : Below w0.heap.size w0 w) (h : spec_l01Src_chance.f s0_0 s0_1 s0_2 a1 = some (r1, r2, r3)) :
    Calls Tryd.prog 63 #[.pointer (some ⟨g, 0, none⟩), .int .i64 a1] w fun e w' => e = .returned (.bool r1) ∧ IsS127 w0 w' g s0_0 r2 r3 ∧ Below w0.heap.size w0 w' ∧ KeepBut w w' g none := by
  have HI0 := Aside0.mk hI
  have HK := Aside0.mk (KeepBut.refl w g none)
  have HL := Aside0.mk hB.size
  clear hI
  have HW0 := Aside0.mk hB.size
  have HB := Aside0.mk hB
  clear hB
  have H := h
  unfold spec_l01Src_chance.f at H
  clear h
  replace H := Option.bind_eq_some_iff.mp H
  obtain ⟨⟨t286, t287, t288⟩, A30, H⟩ := H
  try dsimp only at H
  have A3 := Aside0.mk A30
  clear A30
  simp only [Option.some.injEq, Prod.mk.injEq] at H
  obtain ⟨rfl, rfl, rfl⟩ := H
  go_enter Tryd.func63, Tryd.ntmps63
  go_wp2_with (first | ((with_reducible refine gate_callee (f := 60) rfl ?_); refine goesL_ (some 7) rfl rfl Tryd.func60 (by kernel_rfl) rfl #[.pointer (some ⟨g, 0, none⟩), .int .i64 a1] rfl zar ?_; (with_reducible refine (spec_l01Src_next.calls g s0_0 s0_1 s0_2 a1 t286 t287 t288 w0 _ ?side1 ?side2 A3.out).mono ?_); (case side1 => exact zi127 HI0); (case side2 => exact zj127 HB); rintro e w4 ⟨rfl, hi, hb, hk⟩; refine ⟨_, rfl, ?_⟩; replace HK := Aside0.mk (KeepBut.trans (zk HK) hk (.inl rfl)); replace HB := Aside0.mk (hb); replace HI0 := Aside0.mk (hi); (try clear hb); (try clear hb2); (try clear hk); (try clear hi)))
  go_ret
  exact ⟨zre, zi127 HI0, zj127 HB, zk HK⟩

/-! ### spec_l01Src_size: function 97 -/
def spec_l01Src_size.f (s0_0 : List Int) (s0_1 : Int) (s0_2 : Int) (a1 : Int) : Option (Int × Int × Int) := some (mn (wrap64 (1 + (wrap64 ((s0_0.length : Int) / 12)))) a1, s0_1, s0_2)
set_option maxHeartbeats 8000000 in
set_option maxRecDepth 100000 in
theorem spec_l01Src_size.calls (g : Nat) (s0_0 : List Int) (s0_1 : Int) (s0_2 : Int) (a1 : Int) (r1 : Int) (r2 : Int) (r3 : Int) (w0 w : World) (hI : IsS127 w0 w g s0_0 s0_1 s0_2) (hB : Below w0.heap.size w0 w) (h : spec_l01Src_size.f s0_0 s0_1 s0_2 a1 = some (r1, r2, r3)) :
    Calls Tryd.prog 97 #[.pointer (some ⟨g, 0, none⟩), .int .i64 a1] w fun e w' => e = .returned (.int .i64 r1) ∧ IsS127 w0 w' g s0_0 r2 r3 ∧ Below w0.heap.size w0 w' ∧ KeepBut w w' g none := by
  have HI0 := Aside0.mk hI
  have HK := Aside0.mk (KeepBut.refl w g none)
  have HL := Aside0.mk hB.size
  clear hI
  have HW0 := Aside0.mk hB.size
  have HB := Aside0.mk hB
  clear hB
  have H := h
  unfold spec_l01Src_size.f at H
  clear h
  obtain ⟨ji3, hji3⟩ : ∃ j_ : Int, (mn (wrap64 (1 + (wrap64 ((s0_0.length : Int) / 12)))) a1) = j_ := ⟨_, rfl⟩
  replace H : (some (ji3, s0_1, s0_2)) = some (r1, r2, r3) := by first | (rw [hji3] at H; exact H) | (simp only [hji3] at H ⊢; exact H)
  have hji3_ : (if a1 < (wrap64 (1 + (wrap64 ((s0_0.length : Int) / 12)))) then a1 else (wrap64 (1 + (wrap64 ((s0_0.length : Int) / 12))))) = ji3 := hji3
  simp only [Option.some.injEq, Prod.mk.injEq] at H
  obtain ⟨rfl, rfl, rfl⟩ := H
  obtain ⟨ASz4_0, cSz4_0, HGz4, hgz4, HSz4_0⟩ := HI0.out
  have hcz4_0 := cellS127_0 HGz4
  have hcz4_1 := cellS127_1 HGz4
  have hcz4_2 := cellS127_2 HGz4
  have hfz4_1 := blk_frozen HGz4 1
  have hfz4_2 := blk_frozen HGz4 2
  clear HGz4 hgz4
  go_enter Tryd.func97, Tryd.ntmps97
  go_wp2
  go_ret
  exact ⟨by first | rfl | (simp [errW_none, errW_some] <;> rfl) | (simp only [← hji3]; first | rfl | (simp [errW_none, errW_some] <;> rfl)) | (simp [*, errW_none, errW_some] <;> rfl), zi127 HI0, zj127 HB, zk HK⟩

/-! ### spec_l01Src_word: function 98 -/
def spec_l01Src_word.f (s0_0 : List Int) (s0_1 : Int) (s0_2 : Int) : Option (ByteArray × Int × Int) := (some (([(⟨#[114, 117, 110]⟩ : ByteArray), (⟨#[114, 117, 110, 110, 105, 110, 103]⟩ : ByteArray), (⟨#[114, 117, 110, 115]⟩ : ByteArray), (⟨#[114, 97, 110]⟩ : ByteArray), (⟨#[99, 97, 116]⟩ : ByteArray), (⟨#[99, 97, 116, 115]⟩ : ByteArray), (⟨#[116, 104, 101]⟩ : ByteArray), (⟨#[111, 102]⟩ : ByteArray), (⟨#[104, 111, 117, 115, 101]⟩ : ByteArray), (⟨#[104, 111, 117, 115, 101, 115]⟩ : ByteArray), (⟨#[113, 117, 105, 99, 107]⟩ : ByteArray), (⟨#[102, 111, 120]⟩ : ByteArray), (⟨#[105, 116, 39, 115]⟩ : ByteArray), (⟨#[120, 95, 49]⟩ : ByteArray), (⟨#[195, 156, 98, 101, 114]⟩ : ByteArray), (⟨#[99, 97, 102, 195, 169]⟩ : ByteArray), (⟨#[67, 97, 116]⟩ : ByteArray), (⟨#[52, 50]⟩ : ByteArray), (⟨#[55]⟩ : ByteArray), (⟨#[208, 150, 97, 114]⟩ : ByteArray), (⟨#[228, 184, 173]⟩ : ByteArray), (⟨#[206, 169, 109, 101, 103, 97]⟩ : ByteArray), (⟨#[115, 116, 111, 112, 112, 101, 100]⟩ : ByteArray), (⟨#[113, 117, 105, 99, 107, 108, 121]⟩ : ByteArray), (⟨#[108, 97, 100, 105, 101, 115]⟩ : ByteArray)] : List ByteArray) : List ByteArray)).bind fun y289 => ((spec_l01Src_next.f s0_0 s0_1 s0_2 (y289.length : Int)).bind fun bt292 => (if 0 ≤ bt292.1 then (if bt292.1 < (y289.length : Int) then (some (rdOf ByteArray.empty y289 bt292.1, bt292.2.1, bt292.2.2)) else (none)) else (none)))
set_option maxHeartbeats 8000000 in
set_option maxRecDepth 100000 in
theorem spec_l01Src_word.calls (g : Nat) (s0_0 : List Int) (s0_1 : Int) (s0_2 : Int) (r1 : ByteArray) (r2 : Int) (r3 : Int) (w0 w : World) (hI : IsS127 w0 w g s0_0 s0_1 s0_2) (hB : Below w0.heap.size w0 w) (h : spec_l01Src_word.f s0_0 s0_1 s0_2 = some (r1, r2, r3)) :
    Calls Tryd.prog 98 #[.pointer (some ⟨g, 0, none⟩)] w fun e w' => e = .returned (.string r1) ∧ IsS127 w0 w' g s0_0 r2 r3 ∧ Below w0.heap.size w0 w' ∧ KeepBut w w' g none := by
  have HI0 := Aside0.mk hI
  have HK := Aside0.mk (KeepBut.refl w g none)
  have HL := Aside0.mk hB.size
  clear hI
  have HW0 := Aside0.mk hB.size
  have HB := Aside0.mk hB
  clear hB
  have H := h
  unfold spec_l01Src_word.f at H
  clear h
  obtain ⟨y289, hy289⟩ : ∃ y_ : List ByteArray, y_ = (([(⟨#[114, 117, 110]⟩ : ByteArray), (⟨#[114, 117, 110, 110, 105, 110, 103]⟩ : ByteArray), (⟨#[114, 117, 110, 115]⟩ : ByteArray), (⟨#[114, 97, 110]⟩ : ByteArray), (⟨#[99, 97, 116]⟩ : ByteArray), (⟨#[99, 97, 116, 115]⟩ : ByteArray), (⟨#[116, 104, 101]⟩ : ByteArray), (⟨#[111, 102]⟩ : ByteArray), (⟨#[104, 111, 117, 115, 101]⟩ : ByteArray), (⟨#[104, 111, 117, 115, 101, 115]⟩ : ByteArray), (⟨#[113, 117, 105, 99, 107]⟩ : ByteArray), (⟨#[102, 111, 120]⟩ : ByteArray), (⟨#[105, 116, 39, 115]⟩ : ByteArray), (⟨#[120, 95, 49]⟩ : ByteArray), (⟨#[195, 156, 98, 101, 114]⟩ : ByteArray), (⟨#[99, 97, 102, 195, 169]⟩ : ByteArray), (⟨#[67, 97, 116]⟩ : ByteArray), (⟨#[52, 50]⟩ : ByteArray), (⟨#[55]⟩ : ByteArray), (⟨#[208, 150, 97, 114]⟩ : ByteArray), (⟨#[228, 184, 173]⟩ : ByteArray), (⟨#[206, 169, 109, 101, 103, 97]⟩ : ByteArray), (⟨#[115, 116, 111, 112, 112, 101, 100]⟩ : ByteArray), (⟨#[113, 117, 105, 99, 107, 108, 121]⟩ : ByteArray), (⟨#[108, 97, 100, 105, 101, 115]⟩ : ByteArray)] : List ByteArray)) := ⟨_, rfl⟩
  replace H : ((spec_l01Src_next.f s0_0 s0_1 s0_2 (y289.length : Int)).bind fun bt292 => (if 0 ≤ bt292.1 then (if bt292.1 < (y289.length : Int) then (some (rdOf ByteArray.empty y289 bt292.1, bt292.2.1, bt292.2.2)) else (none)) else (none))) = some (r1, r2, r3) := zby hy289 H
  have Ny289 := Aside0.mk hy289
  clear hy289
  replace H := Option.bind_eq_some_iff.mp H
  obtain ⟨⟨t292, t293, t294⟩, A20, H⟩ := H
  try dsimp only at H
  have A2 := Aside0.mk A20
  clear A20
  by_cases c3 : 0 ≤ t292
  rotate_left
  · rw [if_neg c3] at H
    exact absurd H (by simp)

  rw [if_pos c3] at H
  have c3b0 : decide (0 ≤ t292) = true := decide_eq_true c3
  clear c3
  by_cases c4 : t292 < (y289.length : Int)
  rotate_left
  · rw [if_neg c4] at H
    exact absurd H (by simp)
  rw [if_pos c4] at H
  have c4b0 : decide (t292 < (y289.length : Int)) = true := decide_eq_true c4
  clear c4
  simp only [Option.some.injEq, Prod.mk.injEq] at H
  obtain ⟨rfl, rfl, rfl⟩ := H
  go_enter Tryd.func98, Tryd.ntmps98
  go_wp2_with (first | ((with_reducible refine gate_dst (N := 4) rfl ?_); refine Kd.R_lit Kd.string _ 9 ?hg (N := 4) ?hd (xs := ([(⟨#[114, 117, 110]⟩ : ByteArray), (⟨#[114, 117, 110, 110, 105, 110, 103]⟩ : ByteArray), (⟨#[114, 117, 110, 115]⟩ : ByteArray), (⟨#[114, 97, 110]⟩ : ByteArray), (⟨#[99, 97, 116]⟩ : ByteArray), (⟨#[99, 97, 116, 115]⟩ : ByteArray), (⟨#[116, 104, 101]⟩ : ByteArray), (⟨#[111, 102]⟩ : ByteArray), (⟨#[104, 111, 117, 115, 101]⟩ : ByteArray), (⟨#[104, 111, 117, 115, 101, 115]⟩ : ByteArray), (⟨#[113, 117, 105, 99, 107]⟩ : ByteArray), (⟨#[102, 111, 120]⟩ : ByteArray), (⟨#[105, 116, 39, 115]⟩ : ByteArray), (⟨#[120, 95, 49]⟩ : ByteArray), (⟨#[195, 156, 98, 101, 114]⟩ : ByteArray), (⟨#[99, 97, 102, 195, 169]⟩ : ByteArray), (⟨#[67, 97, 116]⟩ : ByteArray), (⟨#[52, 50]⟩ : ByteArray), (⟨#[55]⟩ : ByteArray), (⟨#[208, 150, 97, 114]⟩ : ByteArray), (⟨#[228, 184, 173]⟩ : ByteArray), (⟨#[206, 169, 109, 101, 103, 97]⟩ : ByteArray), (⟨#[115, 116, 111, 112, 112, 101, 100]⟩ : ByteArray), (⟨#[113, 117, 105, 99, 107, 108, 121]⟩ : ByteArray), (⟨#[108, 97, 100, 105, 101, 115]⟩ : ByteArray)] : List ByteArray)) (inner := [.string (⟨#[114, 117, 110]⟩ : ByteArray), .string (⟨#[114, 117, 110, 110, 105, 110, 103]⟩ : ByteArray), .string (⟨#[114, 117, 110, 115]⟩ : ByteArray), .string (⟨#[114, 97, 110]⟩ : ByteArray), .string (⟨#[99, 97, 116]⟩ : ByteArray), .string (⟨#[99, 97, 116, 115]⟩ : ByteArray), .string (⟨#[116, 104, 101]⟩ : ByteArray), .string (⟨#[111, 102]⟩ : ByteArray), .string (⟨#[104, 111, 117, 115, 101]⟩ : ByteArray), .string (⟨#[104, 111, 117, 115, 101, 115]⟩ : ByteArray), .string (⟨#[113, 117, 105, 99, 107]⟩ : ByteArray), .string (⟨#[102, 111, 120]⟩ : ByteArray), .string (⟨#[105, 116, 39, 115]⟩ : ByteArray), .string (⟨#[120, 95, 49]⟩ : ByteArray), .string (⟨#[195, 156, 98, 101, 114]⟩ : ByteArray), .string (⟨#[99, 97, 102, 195, 169]⟩ : ByteArray), .string (⟨#[67, 97, 116]⟩ : ByteArray), .string (⟨#[52, 50]⟩ : ByteArray), .string (⟨#[55]⟩ : ByteArray), .string (⟨#[208, 150, 97, 114]⟩ : ByteArray), .string (⟨#[228, 184, 173]⟩ : ByteArray), .string (⟨#[206, 169, 109, 101, 103, 97]⟩ : ByteArray), .string (⟨#[115, 116, 111, 112, 112, 101, 100]⟩ : ByteArray), .string (⟨#[113, 117, 105, 99, 107, 108, 121]⟩ : ByteArray), .string (⟨#[108, 97, 100, 105, 101, 115]⟩ : ByteArray)]) (ok := fun _ => True) (okp := fun _ => True) ?hr ?hp (fun _ hk => hk) trivial (Below.refl _ _) (Nat.le_refl _) (by simp) ?_; (case hd => rfl); (case hg => rfl); (case hr => first | (go_simp; done) | (go_simp; rfl)); (case hp => exact (Reps.one (show Kd.M Kd.string _ _ _ (⟨#[114, 117, 110]⟩ : ByteArray) [.string (⟨#[114, 117, 110]⟩ : ByteArray)] from rfl) (Reps.one (show Kd.M Kd.string _ _ _ (⟨#[114, 117, 110, 110, 105, 110, 103]⟩ : ByteArray) [.string (⟨#[114, 117, 110, 110, 105, 110, 103]⟩ : ByteArray)] from rfl) (Reps.one (show Kd.M Kd.string _ _ _ (⟨#[114, 117, 110, 115]⟩ : ByteArray) [.string (⟨#[114, 117, 110, 115]⟩ : ByteArray)] from rfl) (Reps.one (show Kd.M Kd.string _ _ _ (⟨#[114, 97, 110]⟩ : ByteArray) [.string (⟨#[114, 97, 110]⟩ : ByteArray)] from rfl) (Reps.one (show Kd.M Kd.string _ _ _ (⟨#[99, 97, 116]⟩ : ByteArray) [.string (⟨#[99, 97, 116]⟩ : ByteArray)] from rfl) (Reps.one (show Kd.M Kd.string _ _ _ (⟨#[99, 97, 116, 115]⟩ : ByteArray) [.string (⟨#[99, 97, 116, 115]⟩ : ByteArray)] from rfl) (Reps.one (show Kd.M Kd.string _ _ _ (⟨#[116, 104, 101]⟩ : ByteArray) [.string (⟨#[116, 104, 101]⟩ : ByteArray)] from rfl) (Reps.one (show Kd.M Kd.string _ _ _ (⟨#[111, 102]⟩ : ByteArray) [.string (⟨#[111, 102]⟩ : ByteArray)] from rfl) (Reps.one (show Kd.M Kd.string _ _ _ (⟨#[104, 111, 117, 115, 101]⟩ : ByteArray) [.string (⟨#[104, 111, 117, 115, 101]⟩ : ByteArray)] from rfl) (Reps.one (show Kd.M Kd.string _ _ _ (⟨#[104, 111, 117, 115, 101, 115]⟩ : ByteArray) [.string (⟨#[104, 111, 117, 115, 101, 115]⟩ : ByteArray)] from rfl) (Reps.one (show Kd.M Kd.string _ _ _ (⟨#[113, 117, 105, 99, 107]⟩ : ByteArray) [.string (⟨#[113, 117, 105, 99, 107]⟩ : ByteArray)] from rfl) (Reps.one (show Kd.M Kd.string _ _ _ (⟨#[102, 111, 120]⟩ : ByteArray) [.string (⟨#[102, 111, 120]⟩ : ByteArray)] from rfl) (Reps.one (show Kd.M Kd.string _ _ _ (⟨#[105, 116, 39, 115]⟩ : ByteArray) [.string (⟨#[105, 116, 39, 115]⟩ : ByteArray)] from rfl) (Reps.one (show Kd.M Kd.string _ _ _ (⟨#[120, 95, 49]⟩ : ByteArray) [.string (⟨#[120, 95, 49]⟩ : ByteArray)] from rfl) (Reps.one (show Kd.M Kd.string _ _ _ (⟨#[195, 156, 98, 101, 114]⟩ : ByteArray) [.string (⟨#[195, 156, 98, 101, 114]⟩ : ByteArray)] from rfl) (Reps.one (show Kd.M Kd.string _ _ _ (⟨#[99, 97, 102, 195, 169]⟩ : ByteArray) [.string (⟨#[99, 97, 102, 195, 169]⟩ : ByteArray)] from rfl) (Reps.one (show Kd.M Kd.string _ _ _ (⟨#[67, 97, 116]⟩ : ByteArray) [.string (⟨#[67, 97, 116]⟩ : ByteArray)] from rfl) (Reps.one (show Kd.M Kd.string _ _ _ (⟨#[52, 50]⟩ : ByteArray) [.string (⟨#[52, 50]⟩ : ByteArray)] from rfl) (Reps.one (show Kd.M Kd.string _ _ _ (⟨#[55]⟩ : ByteArray) [.string (⟨#[55]⟩ : ByteArray)] from rfl) (Reps.one (show Kd.M Kd.string _ _ _ (⟨#[208, 150, 97, 114]⟩ : ByteArray) [.string (⟨#[208, 150, 97, 114]⟩ : ByteArray)] from rfl) (Reps.one (show Kd.M Kd.string _ _ _ (⟨#[228, 184, 173]⟩ : ByteArray) [.string (⟨#[228, 184, 173]⟩ : ByteArray)] from rfl) (Reps.one (show Kd.M Kd.string _ _ _ (⟨#[206, 169, 109, 101, 103, 97]⟩ : ByteArray) [.string (⟨#[206, 169, 109, 101, 103, 97]⟩ : ByteArray)] from rfl) (Reps.one (show Kd.M Kd.string _ _ _ (⟨#[115, 116, 111, 112, 112, 101, 100]⟩ : ByteArray) [.string (⟨#[115, 116, 111, 112, 112, 101, 100]⟩ : ByteArray)] from rfl) (Reps.one (show Kd.M Kd.string _ _ _ (⟨#[113, 117, 105, 99, 107, 108, 121]⟩ : ByteArray) [.string (⟨#[113, 117, 105, 99, 107, 108, 121]⟩ : ByteArray)] from rfl) (Reps.one (show Kd.M Kd.string _ _ _ (⟨#[108, 97, 100, 105, 101, 115]⟩ : ByteArray) [.string (⟨#[108, 97, 100, 105, 101, 115]⟩ : ByteArray)] from rfl) (Reps.none _ _))))))))))))))))))))))))))); intro v290 w5 ho6 hb hg_ hnew_; clear hg_ hnew_; (first | rw [← Ny289.out] at ho6 | (simp only [Int.reduceToNat] at ho6; rw [← Ny289.out] at ho6)); have HO291 := Aside0.mk (Kd.R_lower ho6 (keep_size (w := w) (g := g) (row := none) (zk HK))); replace HI0 := Aside0.mk (IsS127.below (zi127 HI0) hb); replace HK := Aside0.mk (KeepBut.trans (zk HK) (KeepBut.of_below hb g none) (.inl rfl)); replace HB := Aside0.mk (below_step (zj127 HB) hb); clear hb ho6; obtain ⟨Ao7, co7, eo7⟩ := Kd.R_slice HO291.out; subst eo7) | ((with_reducible refine gate_callee (f := 60) rfl ?_); refine goesL_ (some 9) rfl rfl Tryd.func60 (by kernel_rfl) rfl #[.pointer (some ⟨g, 0, none⟩), .int .i64 (y289.length : Int)] rfl zar ?_; (with_reducible refine (spec_l01Src_next.calls g s0_0 s0_1 s0_2 (y289.length : Int) t292 t293 t294 w0 _ ?side1 ?side2 A2.out).mono ?_); (case side1 => exact zi127 HI0); (case side2 => exact zj127 HB); rintro e w8 ⟨rfl, hi, hb, hk⟩; refine ⟨_, rfl, ?_⟩; replace HO291 := Aside0.mk (Kd.R_mono (Kd.R_keep (IsS127.apart (show IsS127 w0 _ g s0_0 s0_1 s0_2 from zi127 HI0) (zr HO291) (by decide)) hk (fun _ h => h.2)) (fun _ h => h.1)); replace HK := Aside0.mk (KeepBut.trans (zk HK) hk (.inl rfl)); replace HB := Aside0.mk (hb); replace HI0 := Aside0.mk (hi); (try clear hb); (try clear hb2); (try clear hk); (try clear hi); have p295 : 0 ≤ (t292 : Int) := of_decide_eq_true zas; have q295 : t292 < (y289.length : Int) := of_decide_eq_true zas; obtain ⟨ad295, e295, hx295_0⟩ := Kd.at_string (Kd.R_reads' HO291.out).2.2 t292 p295 q295; cases e295; replace p295 := eq_true p295; replace q295 := eq_true q295))
  go_ret
  exact ⟨zre, zi127 HI0, zj127 HB, zk HK⟩
end Go.Proofs.YtcokeankiedfcaaDoor.XFnSuggest
