-- A printed text of this session (wip/x/xprint.py).
import Derived.Test.YtcokeankiedfcaaDoorXFnSuggestx0
import Derived.Test.YtcokeankiedfcaaDoorXFnSuggestx8
namespace Go.Proofs.YtcokeankiedfcaaDoor.XFnSuggest
open Go.RowKit Go.Proofs.YtcokeankiedfcaaDoorW.PrintWords Go.Proofs.YtcokeankiedfcaaDoorW.PrintLast Go.Proofs.YtcokeankiedfcaaDoorW.PrintMore
attribute [local go_sem] max2_int min2_int max_two min_two max_three min_three max_four min_four   -- for this text's walks alone
set_option linter.unusedVariables false
set_option linter.unusedSimpArgs false
def fl9_ (n m : Nat) : Array Bool := ((List.range n).map fun i => m.testBit i).toArray

/-! ### spec_l01Src_byte: function 103 -/
def spec_l01Src_byte.f (s0_0 : List Int) (s0_1 : Int) (s0_2 : Int) : Option (Int × Int × Int) := if (wrap64 (s0_1 + 1)) ≤ (s0_0.length : Int) then (if 0 ≤ (wrap64 ((wrap64 (s0_1 + 1)) - 1)) then (if (wrap64 ((wrap64 (s0_1 + 1)) - 1)) < (s0_0.length : Int) then (some (wrap64 (rd s0_0 (wrap64 ((wrap64 (s0_1 + 1)) - 1))), wrap64 (s0_1 + 1), Int.tmod (wrap64 ((wrap64 ((wrap64 (s0_2 * 31)) + (wrap64 (rd s0_0 (wrap64 ((wrap64 (s0_1 + 1)) - 1)))))) + 7)) 2147483648)) else (none)) else (none)) else (if (wrap64 (s0_1 + 1)) > (wrap64 (4000 + (wrap64 (4 * (s0_0.length : Int))))) then (some (0, wrap64 (s0_1 + 1), s0_2)) else (some (Int.tmod (wrap64 (Int.tdiv (Int.tmod (wrap64 ((wrap64 (s0_2 * 1103515245)) + 12345)) 2147483648) 65536)) 256, wrap64 (s0_1 + 1), Int.tmod (wrap64 ((wrap64 (s0_2 * 1103515245)) + 12345)) 2147483648)))
def spec_l01Src_byte.T2 : Bool × List (List Nat × List Nat) := (true, [([], []), ([0], [0]), ([1], [1]), ([2], [2]), ([], []), ([4], [4]), ([5], [5]), ([6], [6]), ([7], [7]), ([3, 8], [3, 8])])
def spec_l01Src_byte.B2 : List Nat := [0, 1, 3, 7, 0, 16, 48, 112, 240, 511]
theorem spec_l01Src_byte.tab2 : rtab .any (opsOf Tryd.f103 2) = spec_l01Src_byte.T2 := by kernel_rfl
theorem spec_l01Src_byte.bits2 : waitsOk spec_l01Src_byte.T2.2 spec_l01Src_byte.B2 = true := by kernel_rfl
def spec_l01Src_byte.T3 : Bool × List (List Nat × List Nat) := (true, [([], []), ([], []), ([1], [1]), ([2], [2]), ([3], [3]), ([4], [4]), ([], []), ([6], [6]), ([7], [7]), ([8], [8]), ([], []), ([10], [10]), ([11], [11]), ([12], [12]), ([13], [13]), ([9, 14], [9, 14]), ([15], [15]), ([16], [16]), ([5, 17], [5, 17]), ([18], [18]), ([19], [19]), ([0, 0, 1, 2, 3, 4, 5, 6, 7, 8, 9, 10, 11, 12, 13, 14, 15, 16, 17, 18, 19, 20], [0]), ([21, 0, 1, 2, 3, 4, 5, 6, 7, 8, 9, 10, 11, 12, 13, 14, 15, 16, 17, 18, 19, 20], [21]), ([22, 20, 0, 1, 2, 3, 4, 5, 6, 7, 8, 9, 10, 11, 12, 13, 14, 15, 16, 17, 18, 19, 20], [20, 22])])
def spec_l01Src_byte.B3 : List Nat := [0, 0, 2, 6, 14, 30, 0, 64, 192, 448, 0, 1024, 3072, 7168, 15360, 32704, 65472, 131008, 262142, 524286, 1048574, 2097151, 4194303, 8388607]
theorem spec_l01Src_byte.tab3 : rtab .any (opsOf Tryd.f103 3) = spec_l01Src_byte.T3 := by kernel_rfl
theorem spec_l01Src_byte.bits3 : waitsOk spec_l01Src_byte.T3.2 spec_l01Src_byte.B3 = true := by kernel_rfl
def spec_l01Src_byte.T4 : Bool × List (List Nat × List Nat) := (true, [([], []), ([0], [0]), ([1], [1]), ([2], [2]), ([], []), ([4], [4]), ([5], [5]), ([6], [6]), ([7], [7]), ([3, 8], [3, 8]), ([9], [9]), ([10], [10]), ([11, 0, 1, 2, 3, 4, 5, 6, 7, 8, 9, 10, 11], [11])])
def spec_l01Src_byte.B4 : List Nat := [0, 1, 3, 7, 0, 16, 48, 112, 240, 511, 1023, 2047, 4095]
theorem spec_l01Src_byte.tab4 : rtab .any (opsOf Tryd.f103 4) = spec_l01Src_byte.T4 := by kernel_rfl
theorem spec_l01Src_byte.bits4 : waitsOk spec_l01Src_byte.T4.2 spec_l01Src_byte.B4 = true := by kernel_rfl
def spec_l01Src_byte.T5 : Bool × List (List Nat × List Nat) := (true, [([], []), ([0], [0]), ([1], [1]), ([2], [2]), ([], []), ([4], [4]), ([5], [5]), ([6], [6]), ([7], [7]), ([8], [8]), ([9], [9]), ([3, 10], [3, 10])])
def spec_l01Src_byte.B5 : List Nat := [0, 1, 3, 7, 0, 16, 48, 112, 240, 496, 1008, 2047]
theorem spec_l01Src_byte.tab5 : rtab .any (opsOf Tryd.f103 5) = spec_l01Src_byte.T5 := by kernel_rfl
theorem spec_l01Src_byte.bits5 : waitsOk spec_l01Src_byte.T5.2 spec_l01Src_byte.B5 = true := by kernel_rfl
set_option maxHeartbeats 8000000 in
set_option maxRecDepth 100000 in
theorem spec_l01Src_byte.calls (g : Nat) (s0_0 : List Int) (s0_1 : Int) (s0_2 : Int) (r1 : Int) (r2 : Int) (r3 : Int) (w0 w : World) (hI : IsS127 w0 w g s0_0 s0_1 s0_2) (hB : Below w0.heap.size w0 w) (h : spec_l01Src_byte.f s0_0 s0_1 s0_2 = some (r1, r2, r3)) :
 Calls Tryd.prog 103 #[.pointer (some ⟨g, 0, none⟩)] w fun e w' => e = .returned (.int .i64 r1) ∧ IsS127 w0 w' g s0_0 r2 r3 ∧ Below w0.heap.size w0 w' ∧ KeepBut w w' g none := by
 have HI0 := Aside0.mk hI
 have HK := Aside0.mk (KeepBut.refl w g none)
 have HL := Aside0.mk hB.size
 clear hI
 have HW0 := Aside0.mk hB.size
 have HB := Aside0.mk hB
 clear hB
 have H := h
 unfold spec_l01Src_byte.f at H
 clear h
 by_cases c2 : (wrap64 (s0_1 + 1)) ≤ (s0_0.length : Int)
 rotate_left
 ·rw [if_neg c2] at H
  have c2b0 : decide ((wrap64 (s0_1 + 1)) ≤ (s0_0.length : Int)) = false := decide_eq_false c2
  clear c2
  by_cases c15 : (wrap64 (s0_1 + 1)) > (wrap64 (4000 + (wrap64 (4 * (s0_0.length : Int)))))
  ·rw [if_pos c15] at H
   have c15b0 : decide ((wrap64 (4000 + (wrap64 (4 * (s0_0.length : Int))))) < (wrap64 (s0_1 + 1))) = true := decide_eq_true c15
   clear c15
   simp only [Option.some.injEq, Prod.mk.injEq] at H
   obtain ⟨rfl, rfl, rfl⟩ := H
   obtain ⟨ASz16_0, cSz16_0, HGz16, hgz16, HSz16_0⟩ := HI0.out
   have hcz16_0 := cellS127_0 HGz16
   have hcz16_1 := cellS127_1 HGz16
   have hcz16_2 := cellS127_2 HGz16
   have hfz16_1 := blk_frozen HGz16 1
   have hfz16_2 := blk_frozen HGz16 2
   clear HGz16 hgz16
   go_enter Tryd.func103, Tryd.ntmps103
   try go_wp2
   have n0_ : Aside0 (IsS127 w0 (w.setCell ⟨g, 1, none⟩ (.int .i64 (wrap64 (s0_1 + 1)))) g s0_0 (wrap64 (s0_1 + 1)) s0_2) := ⟨zi127 HI0⟩
   have n1_ : Aside0 (KeepBut w (w.setCell ⟨g, 1, none⟩ (.int .i64 (wrap64 (s0_1 + 1)))) g none) := ⟨zk HK⟩
   have n2_ : Aside0 (Below w0.heap.size w0 (w.setCell ⟨g, 1, none⟩ (.int .i64 (wrap64 (s0_1 + 1))))) := ⟨zj127 HB⟩
   (try clear HI0)
   (try clear HK)
   (try clear HB)
   generalize (w.setCell ⟨g, 1, none⟩ (.int .i64 (wrap64 (s0_1 + 1)))) = w17 at n0_ n1_ n2_ ⊢
   have HI0 := n0_
   have HK := n1_
   have HB := n2_
   clear n0_ n1_ n2_
   replace HI0 := Aside0.mk (IsS127.drew HI0.out)
   replace HK := Aside0.mk (keep_drew HK.out)
   replace HB := Aside0.mk (below_drew1 HB.out)
   obtain ⟨AS9019_0, cS9019_0, HG9019, hg9019, HS9019_0⟩ := HI0.out
   have hx9019_0 := cellS127_0 HG9019
   have hx9019_1 := cellS127_1 HG9019
   have hx9019_2 := cellS127_2 HG9019
   have hf9019_1 := blk_frozen HG9019 1
   have hf9019_2 := blk_frozen HG9019 2
   have hfate := Kd.far_C (0 : Int) HS9019_0.1 hg9019
   clear HG9019 hg9019
   refine start_ (n := 10) (S := fun w' => w'.cell? ⟨g, 0, none⟩ = some (.slice AS9019_0 s0_0.length cS9019_0) ∧ w'.cell? ⟨g, 1, none⟩ = some (.int .i64 (wrap64 (s0_1 + 1))) ∧ w'.cell? ⟨g, 2, none⟩ = some (.int .i64 s0_2)) (ds := []) (fl9_ 10 0) (by kernel_rfl) rfl rfl ⟨hx9019_0, hx9019_1, hx9019_2⟩ (fun hHeld => ?_); refine with_tabW spec_l01Src_byte.tab2 spec_l01Src_byte.bits2 (fun HT_ HW_ => ?_)
   generalize w17.drew = w18 at HI0 HK HB hf9019_1 hf9019_2 hx9019_0 hx9019_1 hx9019_2 hHeld ⊢
   refine zpu HT_ 0 10 (fl9_ 10 1) ?_
   refine zpu HT_ 1 11 (fl9_ 10 3) ?_
   refine zpu HT_ 2 12 (fl9_ 10 7) ?_
   refine zpu HT_ 4 14 (fl9_ 10 23) ?_
   refine zpu HT_ 5 15 (fl9_ 10 55) ?_
   refine zpu HT_ 6 16 (fl9_ 10 119) ?_
   refine take_ (i := 3) (N := some 13) (v := ?_) (a' := ?_) (fl9_ 10 127) rfl rfl (take_ofW HT_.out HW_.out (by kernel_rfl)) (fun _ _ _ h => h) (Or.inl ⟨by rfl, ?_⟩) hHeld ?_ ?_
   rotate_left
   ·rintro w' ⟨s0, s1, s2⟩
    go_simp
    with_reducible rfl
   rotate_left
   ·simp only [Act.put, List.setIfInBounds_toArray, List.set_cons_zero, List.set_cons_succ, i64_w, i32_w]
    rfl
   refine take_ (i := 7) (N := some 17) (v := ?_) (a' := ?_) (fl9_ 10 255) rfl rfl (take_ofW HT_.out HW_.out (by kernel_rfl)) (fun _ _ _ h => h) (Or.inl ⟨by rfl, ?_⟩) hHeld ?_ ?_
   rotate_left
   ·rintro w' ⟨s0, s1, s2⟩
    go_simp
    with_reducible rfl
   rotate_left
   ·simp only [Act.put, List.setIfInBounds_toArray, List.set_cons_zero, List.set_cons_succ, i64_w, i32_w]
    rfl
   refine zpu HT_ 8 18 (fl9_ 10 511) ?_
   refine zpu HT_ 9 19 (fl9_ 10 1023) ?_
   refine done_ (done_of HT_.out (by kernel_rfl)) ?_
   try go_wp2
   replace HI0 := Aside0.mk (IsS127.drew HI0.out)
   replace HK := Aside0.mk (keep_drew HK.out)
   replace HB := Aside0.mk (below_drew1 HB.out)
   obtain ⟨AS9021_0, cS9021_0, HG9021, hg9021, HS9021_0⟩ := HI0.out
   have hx9021_0 := cellS127_0 HG9021
   have hx9021_1 := cellS127_1 HG9021
   have hx9021_2 := cellS127_2 HG9021
   have hf9021_1 := blk_frozen HG9021 1
   have hf9021_2 := blk_frozen HG9021 2
   have hfate := Kd.far_C (0 : Int) HS9021_0.1 hg9021
   clear HG9021 hg9021
   refine start_ (n := 12) (S := fun w' => w'.cell? ⟨g, 0, none⟩ = some (.slice AS9021_0 s0_0.length cS9021_0) ∧ w'.cell? ⟨g, 1, none⟩ = some (.int .i64 (wrap64 (s0_1 + 1))) ∧ w'.cell? ⟨g, 2, none⟩ = some (.int .i64 s0_2)) (ds := []) (fl9_ 12 0) (by kernel_rfl) rfl rfl ⟨hx9021_0, hx9021_1, hx9021_2⟩ (fun hHeld => ?_); refine with_tabW spec_l01Src_byte.tab5 spec_l01Src_byte.bits5 (fun HT_ HW_ => ?_)
   generalize w18.drew = w20 at HI0 HK HB hf9021_1 hf9021_2 hx9021_0 hx9021_1 hx9021_2 hHeld ⊢
   refine zpu HT_ 0 55 (fl9_ 12 1) ?_
   refine zpu HT_ 1 56 (fl9_ 12 3) ?_
   refine zpu HT_ 2 57 (fl9_ 12 7) ?_
   refine zpu HT_ 4 59 (fl9_ 12 23) ?_
   refine zpu HT_ 5 60 (fl9_ 12 55) ?_
   refine zpu HT_ 6 61 (fl9_ 12 119) ?_
   refine take_ (i := 3) (N := some 58) (v := ?_) (a' := ?_) (fl9_ 12 127) rfl rfl (take_ofW HT_.out HW_.out (by kernel_rfl)) (fun _ _ _ h => h) (Or.inl ⟨by rfl, ?_⟩) hHeld ?_ ?_
   rotate_left
   ·rintro w' ⟨s0, s1, s2⟩
    go_simp
    with_reducible rfl
   rotate_left
   ·simp only [Act.put, List.setIfInBounds_toArray, List.set_cons_zero, List.set_cons_succ, i64_w, i32_w]
    rfl
   refine take_ (i := 7) (N := some 62) (v := ?_) (a' := ?_) (fl9_ 12 255) rfl rfl (take_ofW HT_.out HW_.out (by kernel_rfl)) (fun _ _ _ h => h) (Or.inl ⟨by rfl, ?_⟩) hHeld ?_ ?_
   rotate_left
   ·rintro w' ⟨s0, s1, s2⟩
    go_simp
    with_reducible rfl
   rotate_left
   ·simp only [Act.put, List.setIfInBounds_toArray, List.set_cons_zero, List.set_cons_succ, i64_w, i32_w]
    rfl
   refine zpu HT_ 8 63 (fl9_ 12 511) ?_
   refine zpu HT_ 9 64 (fl9_ 12 1023) ?_
   refine zpu HT_ 10 65 (fl9_ 12 2047) ?_
   refine zpu HT_ 11 66 (fl9_ 12 4095) ?_
   refine done_ (done_of HT_.out (by kernel_rfl)) ?_
   try go_wp2
   go_ret
   exact ⟨zre, zi127 HI0, zj127 HB, zk HK⟩
  rw [if_neg c15] at H
  have c15b0 : decide ((wrap64 (4000 + (wrap64 (4 * (s0_0.length : Int))))) < (wrap64 (s0_1 + 1))) = false := decide_eq_false c15
  clear c15
  simp only [Option.some.injEq, Prod.mk.injEq] at H
  obtain ⟨rfl, rfl, rfl⟩ := H
  obtain ⟨ASz22_0, cSz22_0, HGz22, hgz22, HSz22_0⟩ := HI0.out
  have hcz22_0 := cellS127_0 HGz22
  have hcz22_1 := cellS127_1 HGz22
  have hcz22_2 := cellS127_2 HGz22
  have hfz22_1 := blk_frozen HGz22 1
  have hfz22_2 := blk_frozen HGz22 2
  clear HGz22 hgz22
  go_enter Tryd.func103, Tryd.ntmps103
  try go_wp2
  have n0_ : Aside0 (IsS127 w0 (w.setCell ⟨g, 1, none⟩ (.int .i64 (wrap64 (s0_1 + 1)))) g s0_0 (wrap64 (s0_1 + 1)) s0_2) := ⟨zi127 HI0⟩
  have n1_ : Aside0 (KeepBut w (w.setCell ⟨g, 1, none⟩ (.int .i64 (wrap64 (s0_1 + 1)))) g none) := ⟨zk HK⟩
  have n2_ : Aside0 (Below w0.heap.size w0 (w.setCell ⟨g, 1, none⟩ (.int .i64 (wrap64 (s0_1 + 1))))) := ⟨zj127 HB⟩
  (try clear HI0)
  (try clear HK)
  (try clear HB)
  generalize (w.setCell ⟨g, 1, none⟩ (.int .i64 (wrap64 (s0_1 + 1)))) = w23 at n0_ n1_ n2_ ⊢
  have HI0 := n0_
  have HK := n1_
  have HB := n2_
  clear n0_ n1_ n2_
  replace HI0 := Aside0.mk (IsS127.drew HI0.out)
  replace HK := Aside0.mk (keep_drew HK.out)
  replace HB := Aside0.mk (below_drew1 HB.out)
  obtain ⟨AS9025_0, cS9025_0, HG9025, hg9025, HS9025_0⟩ := HI0.out
  have hx9025_0 := cellS127_0 HG9025
  have hx9025_1 := cellS127_1 HG9025
  have hx9025_2 := cellS127_2 HG9025
  have hf9025_1 := blk_frozen HG9025 1
  have hf9025_2 := blk_frozen HG9025 2
  have hfate := Kd.far_C (0 : Int) HS9025_0.1 hg9025
  clear HG9025 hg9025
  refine start_ (n := 10) (S := fun w' => w'.cell? ⟨g, 0, none⟩ = some (.slice AS9025_0 s0_0.length cS9025_0) ∧ w'.cell? ⟨g, 1, none⟩ = some (.int .i64 (wrap64 (s0_1 + 1))) ∧ w'.cell? ⟨g, 2, none⟩ = some (.int .i64 s0_2)) (ds := []) (fl9_ 10 0) (by kernel_rfl) rfl rfl ⟨hx9025_0, hx9025_1, hx9025_2⟩ (fun hHeld => ?_); refine with_tabW spec_l01Src_byte.tab2 spec_l01Src_byte.bits2 (fun HT_ HW_ => ?_)
  generalize w23.drew = w24 at HI0 HK HB hf9025_1 hf9025_2 hx9025_0 hx9025_1 hx9025_2 hHeld ⊢
  refine zpu HT_ 0 10 (fl9_ 10 1) ?_
  refine zpu HT_ 1 11 (fl9_ 10 3) ?_
  refine zpu HT_ 2 12 (fl9_ 10 7) ?_
  refine zpu HT_ 4 14 (fl9_ 10 23) ?_
  refine zpu HT_ 5 15 (fl9_ 10 55) ?_
  refine zpu HT_ 6 16 (fl9_ 10 119) ?_
  refine take_ (i := 3) (N := some 13) (v := ?_) (a' := ?_) (fl9_ 10 127) rfl rfl (take_ofW HT_.out HW_.out (by kernel_rfl)) (fun _ _ _ h => h) (Or.inl ⟨by rfl, ?_⟩) hHeld ?_ ?_
  rotate_left
  ·rintro w' ⟨s0, s1, s2⟩
   go_simp
   with_reducible rfl
  rotate_left
  ·simp only [Act.put, List.setIfInBounds_toArray, List.set_cons_zero, List.set_cons_succ, i64_w, i32_w]
   rfl
  refine take_ (i := 7) (N := some 17) (v := ?_) (a' := ?_) (fl9_ 10 255) rfl rfl (take_ofW HT_.out HW_.out (by kernel_rfl)) (fun _ _ _ h => h) (Or.inl ⟨by rfl, ?_⟩) hHeld ?_ ?_
  rotate_left
  ·rintro w' ⟨s0, s1, s2⟩
   go_simp
   with_reducible rfl
  rotate_left
  ·simp only [Act.put, List.setIfInBounds_toArray, List.set_cons_zero, List.set_cons_succ, i64_w, i32_w]
   rfl
  refine zpu HT_ 8 18 (fl9_ 10 511) ?_
  refine zpu HT_ 9 19 (fl9_ 10 1023) ?_
  refine done_ (done_of HT_.out (by kernel_rfl)) ?_
  try go_wp2
  replace HI0 := Aside0.mk (IsS127.drew HI0.out)
  replace HK := Aside0.mk (keep_drew HK.out)
  replace HB := Aside0.mk (below_drew1 HB.out)
  obtain ⟨AS9027_0, cS9027_0, HG9027, hg9027, HS9027_0⟩ := HI0.out
  have hx9027_0 := cellS127_0 HG9027
  have hx9027_1 := cellS127_1 HG9027
  have hx9027_2 := cellS127_2 HG9027
  have hf9027_1 := blk_frozen HG9027 1
  have hf9027_2 := blk_frozen HG9027 2
  have hfate := Kd.far_C (0 : Int) HS9027_0.1 hg9027
  clear HG9027 hg9027
  refine start_ (n := 12) (S := fun w' => w'.cell? ⟨g, 0, none⟩ = some (.slice AS9027_0 s0_0.length cS9027_0) ∧ w'.cell? ⟨g, 1, none⟩ = some (.int .i64 (wrap64 (s0_1 + 1))) ∧ w'.cell? ⟨g, 2, none⟩ = some (.int .i64 s0_2)) (ds := []) (fl9_ 12 0) (by kernel_rfl) rfl rfl ⟨hx9027_0, hx9027_1, hx9027_2⟩ (fun hHeld => ?_); refine with_tabW spec_l01Src_byte.tab5 spec_l01Src_byte.bits5 (fun HT_ HW_ => ?_)
  generalize w24.drew = w26 at HI0 HK HB hf9027_1 hf9027_2 hx9027_0 hx9027_1 hx9027_2 hHeld ⊢
  refine zpu HT_ 0 55 (fl9_ 12 1) ?_
  refine zpu HT_ 1 56 (fl9_ 12 3) ?_
  refine zpu HT_ 2 57 (fl9_ 12 7) ?_
  refine zpu HT_ 4 59 (fl9_ 12 23) ?_
  refine zpu HT_ 5 60 (fl9_ 12 55) ?_
  refine zpu HT_ 6 61 (fl9_ 12 119) ?_
  refine take_ (i := 3) (N := some 58) (v := ?_) (a' := ?_) (fl9_ 12 127) rfl rfl (take_ofW HT_.out HW_.out (by kernel_rfl)) (fun _ _ _ h => h) (Or.inl ⟨by rfl, ?_⟩) hHeld ?_ ?_
  rotate_left
  ·rintro w' ⟨s0, s1, s2⟩
   go_simp
   with_reducible rfl
  rotate_left
  ·simp only [Act.put, List.setIfInBounds_toArray, List.set_cons_zero, List.set_cons_succ, i64_w, i32_w]
   rfl
  refine take_ (i := 7) (N := some 62) (v := ?_) (a' := ?_) (fl9_ 12 255) rfl rfl (take_ofW HT_.out HW_.out (by kernel_rfl)) (fun _ _ _ h => h) (Or.inl ⟨by rfl, ?_⟩) hHeld ?_ ?_
  rotate_left
  ·rintro w' ⟨s0, s1, s2⟩
   go_simp
   with_reducible rfl
  rotate_left
  ·simp only [Act.put, List.setIfInBounds_toArray, List.set_cons_zero, List.set_cons_succ, i64_w, i32_w]
   rfl
  refine zpu HT_ 8 63 (fl9_ 12 511) ?_
  refine zpu HT_ 9 64 (fl9_ 12 1023) ?_
  refine zpu HT_ 10 65 (fl9_ 12 2047) ?_
  refine zpu HT_ 11 66 (fl9_ 12 4095) ?_
  refine done_ (done_of HT_.out (by kernel_rfl)) ?_
  obtain ⟨ASz28_0, cSz28_0, HGz28, hgz28, HSz28_0⟩ := HI0.out
  have hcz28_0 := cellS127_0 HGz28
  have hcz28_1 := cellS127_1 HGz28
  have hcz28_2 := cellS127_2 HGz28
  have hfz28_1 := blk_frozen HGz28 1
  have hfz28_2 := blk_frozen HGz28 2
  clear HGz28 hgz28
  try go_wp2
  go_ret
  exact ⟨zre, zi127 HI0, zj127 HB, zk HK⟩

 rw [if_pos c2] at H
 have c2b0 : decide ((wrap64 (s0_1 + 1)) ≤ (s0_0.length : Int)) = true := decide_eq_true c2
 clear c2
 obtain ⟨ji3, hji3⟩ : ∃ j_ : Int, (wrap64 ((wrap64 (s0_1 + 1)) - 1)) = j_ := ⟨_, rfl⟩
 replace H : (if 0 ≤ (ji3) then (if (ji3) < (s0_0.length : Int) then (some (wrap64 (rd s0_0 (ji3)), wrap64 (s0_1 + 1), Int.tmod (wrap64 ((wrap64 ((wrap64 (s0_2 * 31)) + (wrap64 (rd s0_0 (ji3))))) + 7)) 2147483648)) else (none)) else (none)) = some (r1, r2, r3) := by first | (rw [hji3] at H; exact H) | (simp only [hji3] at H ⊢; exact H)
 have hji3w : (IntKind.i64.wrap ((wrap64 (s0_1 + 1)) - 1)) = ji3 := (i64_w _).trans hji3
 by_cases c4 : 0 ≤ (ji3)
 rotate_left
 ·rw [if_neg c4] at H
  exact absurd H (by simp)
 rw [if_pos c4] at H
 have c4b0 : decide (0 ≤ (ji3)) = true := decide_eq_true c4
 clear c4
 by_cases c5 : (ji3) < (s0_0.length : Int)
 rotate_left
 ·rw [if_neg c5] at H
  exact absurd H (by simp)
 rw [if_pos c5] at H
 have c5b0 : decide ((ji3) < (s0_0.length : Int)) = true := decide_eq_true c5
 clear c5
 simp only [Option.some.injEq, Prod.mk.injEq] at H
 obtain ⟨rfl, rfl, rfl⟩ := H
 obtain ⟨ASz6_0, cSz6_0, HGz6, hgz6, HSz6_0⟩ := HI0.out
 have hcz6_0 := cellS127_0 HGz6
 have hcz6_1 := cellS127_1 HGz6
 have hcz6_2 := cellS127_2 HGz6
 have hfz6_1 := blk_frozen HGz6 1
 have hfz6_2 := blk_frozen HGz6 2
 clear HGz6 hgz6
 go_enter Tryd.func103, Tryd.ntmps103
 try go_wp2
 have n0_ : Aside0 (IsS127 w0 (w.setCell ⟨g, 1, none⟩ (.int .i64 (wrap64 (s0_1 + 1)))) g s0_0 (wrap64 (s0_1 + 1)) s0_2) := ⟨zi127 HI0⟩
 have n1_ : Aside0 (KeepBut w (w.setCell ⟨g, 1, none⟩ (.int .i64 (wrap64 (s0_1 + 1)))) g none) := ⟨zk HK⟩
 have n2_ : Aside0 (Below w0.heap.size w0 (w.setCell ⟨g, 1, none⟩ (.int .i64 (wrap64 (s0_1 + 1))))) := ⟨zj127 HB⟩
 (try clear HI0)
 (try clear HK)
 (try clear HB)
 generalize (w.setCell ⟨g, 1, none⟩ (.int .i64 (wrap64 (s0_1 + 1)))) = w7 at n0_ n1_ n2_ ⊢
 have HI0 := n0_
 have HK := n1_
 have HB := n2_
 clear n0_ n1_ n2_
 replace HI0 := Aside0.mk (IsS127.drew HI0.out)
 replace HK := Aside0.mk (keep_drew HK.out)
 replace HB := Aside0.mk (below_drew1 HB.out)
 obtain ⟨AS909_0, cS909_0, HG909, hg909, HS909_0⟩ := HI0.out
 have hx909_0 := cellS127_0 HG909
 have hx909_1 := cellS127_1 HG909
 have hx909_2 := cellS127_2 HG909
 have hf909_1 := blk_frozen HG909 1
 have hf909_2 := blk_frozen HG909 2
 have hfate := Kd.far_C (0 : Int) HS909_0.1 hg909
 clear HG909 hg909
 refine start_ (n := 10) (S := fun w' => w'.cell? ⟨g, 0, none⟩ = some (.slice AS909_0 s0_0.length cS909_0) ∧ w'.cell? ⟨g, 1, none⟩ = some (.int .i64 (wrap64 (s0_1 + 1))) ∧ w'.cell? ⟨g, 2, none⟩ = some (.int .i64 s0_2)) (ds := []) (fl9_ 10 0) (by kernel_rfl) rfl rfl ⟨hx909_0, hx909_1, hx909_2⟩ (fun hHeld => ?_); refine with_tabW spec_l01Src_byte.tab2 spec_l01Src_byte.bits2 (fun HT_ HW_ => ?_)
 generalize w7.drew = w8 at HI0 HK HB hf909_1 hf909_2 hx909_0 hx909_1 hx909_2 hHeld ⊢
 refine zpu HT_ 0 10 (fl9_ 10 1) ?_
 refine zpu HT_ 1 11 (fl9_ 10 3) ?_
 refine zpu HT_ 2 12 (fl9_ 10 7) ?_
 refine zpu HT_ 4 14 (fl9_ 10 23) ?_
 refine zpu HT_ 5 15 (fl9_ 10 55) ?_
 refine zpu HT_ 6 16 (fl9_ 10 119) ?_
 refine take_ (i := 3) (N := some 13) (v := ?_) (a' := ?_) (fl9_ 10 127) rfl rfl (take_ofW HT_.out HW_.out (by kernel_rfl)) (fun _ _ _ h => h) (Or.inl ⟨by rfl, ?_⟩) hHeld ?_ ?_
 rotate_left
 ·rintro w' ⟨s0, s1, s2⟩
  go_simp
  with_reducible rfl
 rotate_left
 ·simp only [Act.put, List.setIfInBounds_toArray, List.set_cons_zero, List.set_cons_succ, i64_w, i32_w]
  rfl
 refine take_ (i := 7) (N := some 17) (v := ?_) (a' := ?_) (fl9_ 10 255) rfl rfl (take_ofW HT_.out HW_.out (by kernel_rfl)) (fun _ _ _ h => h) (Or.inl ⟨by rfl, ?_⟩) hHeld ?_ ?_
 rotate_left
 ·rintro w' ⟨s0, s1, s2⟩
  go_simp
  with_reducible rfl
 rotate_left
 ·simp only [Act.put, List.setIfInBounds_toArray, List.set_cons_zero, List.set_cons_succ, i64_w, i32_w]
  rfl
 refine zpu HT_ 8 18 (fl9_ 10 511) ?_
 refine zpu HT_ 9 19 (fl9_ 10 1023) ?_
 refine done_ (done_of HT_.out (by kernel_rfl)) ?_
 try go_wp2
 replace HI0 := Aside0.mk (IsS127.drew HI0.out)
 replace HK := Aside0.mk (keep_drew HK.out)
 replace HB := Aside0.mk (below_drew1 HB.out)
 obtain ⟨AS9011_0, cS9011_0, HG9011, hg9011, HS9011_0⟩ := HI0.out
 have hx9011_0 := cellS127_0 HG9011
 have hx9011_1 := cellS127_1 HG9011
 have hx9011_2 := cellS127_2 HG9011
 have hf9011_1 := blk_frozen HG9011 1
 have hf9011_2 := blk_frozen HG9011 2
 have hfate := Kd.far_C (0 : Int) HS9011_0.1 hg9011
 clear HG9011 hg9011
 have p266 : 0 ≤ ((ji3) : Int) := of_decide_eq_true zas
 have q266 : (ji3) < (s0_0.length : Int) := of_decide_eq_true zas
 obtain ⟨ad266, e266, hx266_0⟩ := Kd.at_int HS9011_0.1 (ji3) p266 q266
 have hw266_0 := hx266_0
 cases e266
 have hne266_0 := (show ((ad266.add ((ji3)).toNat) : Addr).block ≠ g from by first | (rw [add_block]; exact hfate ad266 rfl (by omega)) | (show (Addr.add _ _).block ≠ _; rw [add_block]; exact hfate ad266 rfl (by omega)) | exact hfate ad266 rfl (by omega))
 replace hx266_0 := pw_cell_below HB.out hx266_0
 replace p266 := eq_true p266
 replace q266 := eq_true q266
 refine start_ (n := 24) (S := fun w' => w'.cell? ⟨g, 0, none⟩ = some (.slice (some ad266) s0_0.length cS9011_0) ∧ w'.cell? ⟨g, 1, none⟩ = some (.int .i64 (wrap64 (s0_1 + 1))) ∧ w'.cell? ⟨g, 2, none⟩ = some (.int .i64 s0_2) ∧ w'.cell? (ad266.add ((ji3)).toNat) = some (.int .u8 (rd s0_0 (ji3)))) (ds := [23]) (fl9_ 24 0) (by kernel_rfl) rfl rfl ⟨hx9011_0, hx9011_1, hx9011_2, hx266_0⟩ (fun hHeld => ?_); refine with_tabW spec_l01Src_byte.tab3 spec_l01Src_byte.bits3 (fun HT_ HW_ => ?_)
 generalize w8.drew = w10 at HI0 HK HB hf9011_1 hf9011_2 hx266_0 hx9011_0 hx9011_1 hx9011_2 hHeld ⊢
 refine zpu HT_ 0 20 (fl9_ 24 1) ?_
 refine zpu HT_ 1 21 (fl9_ 24 3) ?_
 refine zpu HT_ 2 22 (fl9_ 24 7) ?_
 refine zpu HT_ 3 23 (fl9_ 24 15) ?_
 refine zpu HT_ 6 26 (fl9_ 24 79) ?_
 refine zpu HT_ 7 27 (fl9_ 24 207) ?_
 refine zpu HT_ 8 28 (fl9_ 24 463) ?_
 refine zpu HT_ 10 30 (fl9_ 24 1487) ?_
 refine zpu HT_ 11 31 (fl9_ 24 3535) ?_
 refine zpu HT_ 12 32 (fl9_ 24 7631) ?_
 refine take_ (i := 4) (N := some 24) (v := ?_) (a' := ?_) (fl9_ 24 7647) rfl rfl (take_ofW HT_.out HW_.out (by kernel_rfl)) (fun _ _ _ h => h) (Or.inl ⟨by rfl, ?_⟩) hHeld ?_ ?_
 rotate_left
 ·rintro w' ⟨s0, s1, s2, s3⟩
  go_simp
  with_reducible rfl
 rotate_left
 ·simp only [Act.put, List.setIfInBounds_toArray, List.set_cons_zero, List.set_cons_succ, i64_w, i32_w]
  rfl
 refine zpu HT_ 5 25 (fl9_ 24 7679) ?_
 refine take_ (i := 9) (N := some 29) (v := ?_) (a' := ?_) (fl9_ 24 8191) rfl rfl (take_ofW HT_.out HW_.out (by kernel_rfl)) (fun _ _ _ h => h) (Or.inl ⟨by rfl, ?_⟩) hHeld ?_ ?_
 rotate_left
 ·rintro w' ⟨s0, s1, s2, s3⟩
  go_simp
  with_reducible rfl
 rotate_left
 ·simp only [Act.put, List.setIfInBounds_toArray, List.set_cons_zero, List.set_cons_succ, i64_w, i32_w]
  rfl
 refine take_ (i := 13) (N := some 33) (v := ?_) (a' := ?_) (fl9_ 24 16383) rfl rfl (take_ofW HT_.out HW_.out (by kernel_rfl)) (fun _ _ _ h => h) (Or.inl ⟨by rfl, ?_⟩) hHeld ?_ ?_
 rotate_left
 ·rintro w' ⟨s0, s1, s2, s3⟩
  go_simp
  with_reducible rfl
 rotate_left
 ·simp only [Act.put, List.setIfInBounds_toArray, List.set_cons_zero, List.set_cons_succ, i64_w, i32_w]
  rfl
 refine zpu HT_ 14 34 (fl9_ 24 32767) ?_
 refine zpu HT_ 15 35 (fl9_ 24 65535) ?_
 refine take_ (i := 16) (N := some 36) (v := ?_) (a' := ?_) (fl9_ 24 131071) rfl rfl (take_ofW HT_.out HW_.out (by kernel_rfl)) (fun _ _ _ h => h) (Or.inl ⟨by rfl, ?_⟩) hHeld ?_ ?_
 rotate_left
 ·rintro w' ⟨s0, s1, s2, s3⟩
  go_simp
  with_reducible rfl
 rotate_left
 ·simp only [Act.put, List.setIfInBounds_toArray, List.set_cons_zero, List.set_cons_succ, i64_w, i32_w]
  rfl
 refine zpu HT_ 17 37 (fl9_ 24 262143) ?_
 refine zpu HT_ 18 38 (fl9_ 24 524287) ?_
 refine zpu HT_ 19 39 (fl9_ 24 1048575) ?_
 refine zpu HT_ 20 40 (fl9_ 24 2097151) ?_
 refine zpu HT_ 21 41 (fl9_ 24 4194303) ?_
 refine zpu HT_ 22 42 (fl9_ 24 8388607) ?_
 refine last_ (i := 23) (N := none) (fl9_ 24 16777215) rfl rfl (one_of HT_.out (by kernel_rfl)) (by decide) (fun K hK => ?_)
 refine skip_ (w1 := ?_) (by rfl) rfl ?_ ?_
 rotate_left
 ·go_simp
  rfl
 refine hK.out _ _ ?_
 clear hK K
 refine done_ (done_of HT_.out (by kernel_rfl)) ?_
 try go_wp2
 have n0_ : Aside0 (IsS127 w0 (w10.setCell ⟨g, 2, none⟩ (.int .i64 (Int.tmod (wrap64 ((wrap64 ((wrap64 (s0_2 * 31)) + (wrap64 (rd s0_0 (ji3))))) + 7)) 2147483648))) g s0_0 (wrap64 (s0_1 + 1)) (Int.tmod (wrap64 ((wrap64 ((wrap64 (s0_2 * 31)) + (wrap64 (rd s0_0 (ji3))))) + 7)) 2147483648)) := ⟨zi127 HI0⟩
 have n1_ : Aside0 (KeepBut w (w10.setCell ⟨g, 2, none⟩ (.int .i64 (Int.tmod (wrap64 ((wrap64 ((wrap64 (s0_2 * 31)) + (wrap64 (rd s0_0 (ji3))))) + 7)) 2147483648))) g none) := ⟨zk HK⟩
 have n2_ : Aside0 (Below w0.heap.size w0 (w10.setCell ⟨g, 2, none⟩ (.int .i64 (Int.tmod (wrap64 ((wrap64 ((wrap64 (s0_2 * 31)) + (wrap64 (rd s0_0 (ji3))))) + 7)) 2147483648)))) := ⟨zj127 HB⟩
 (try clear HI0)
 (try clear HK)
 (try clear HB)
 generalize (w10.setCell ⟨g, 2, none⟩ (.int .i64 (Int.tmod (wrap64 ((wrap64 ((wrap64 (s0_2 * 31)) + (wrap64 (rd s0_0 (ji3))))) + 7)) 2147483648))) = w12 at n0_ n1_ n2_ ⊢
 have HI0 := n0_
 have HK := n1_
 have HB := n2_
 clear n0_ n1_ n2_
 replace HI0 := Aside0.mk (IsS127.drew HI0.out)
 replace HK := Aside0.mk (keep_drew HK.out)
 replace HB := Aside0.mk (below_drew1 HB.out)
 obtain ⟨AS9014_0, cS9014_0, HG9014, hg9014, HS9014_0⟩ := HI0.out
 have hx9014_0 := cellS127_0 HG9014
 have hx9014_1 := cellS127_1 HG9014
 have hx9014_2 := cellS127_2 HG9014
 have hf9014_1 := blk_frozen HG9014 1
 have hf9014_2 := blk_frozen HG9014 2
 have hfate := Kd.far_C (0 : Int) HS9014_0.1 hg9014
 clear HG9014 hg9014
 have p267 : 0 ≤ ((ji3) : Int) := of_decide_eq_true zas
 have q267 : (ji3) < (s0_0.length : Int) := of_decide_eq_true zas
 obtain ⟨ad267, e267, hx267_0⟩ := Kd.at_int HS9014_0.1 (ji3) p267 q267
 have hw267_0 := hx267_0
 cases e267
 have hne267_0 := (show ((ad267.add ((ji3)).toNat) : Addr).block ≠ g from by first | (rw [add_block]; exact hfate ad267 rfl (by omega)) | (show (Addr.add _ _).block ≠ _; rw [add_block]; exact hfate ad267 rfl (by omega)) | exact hfate ad267 rfl (by omega))
 replace hx267_0 := pw_cell_below HB.out hx267_0
 replace p267 := eq_true p267
 replace q267 := eq_true q267
 refine start_ (n := 13) (S := fun w' => w'.cell? ⟨g, 0, none⟩ = some (.slice (some ad267) s0_0.length cS9014_0) ∧ w'.cell? ⟨g, 1, none⟩ = some (.int .i64 (wrap64 (s0_1 + 1))) ∧ w'.cell? ⟨g, 2, none⟩ = some (.int .i64 (Int.tmod (wrap64 ((wrap64 ((wrap64 (s0_2 * 31)) + (wrap64 (rd s0_0 (ji3))))) + 7)) 2147483648)) ∧ w'.cell? (ad267.add ((ji3)).toNat) = some (.int .u8 (rd s0_0 (ji3)))) (ds := []) (fl9_ 13 0) (by kernel_rfl) rfl rfl ⟨hx9014_0, hx9014_1, hx9014_2, hx267_0⟩ (fun hHeld => ?_); refine with_tabW spec_l01Src_byte.tab4 spec_l01Src_byte.bits4 (fun HT_ HW_ => ?_)
 generalize w12.drew = w13 at HI0 HK HB hf9014_1 hf9014_2 hx267_0 hx9014_0 hx9014_1 hx9014_2 hHeld ⊢
 refine zpu HT_ 0 43 (fl9_ 13 1) ?_
 refine zpu HT_ 1 44 (fl9_ 13 3) ?_
 refine zpu HT_ 2 45 (fl9_ 13 7) ?_
 refine zpu HT_ 4 47 (fl9_ 13 23) ?_
 refine zpu HT_ 5 48 (fl9_ 13 55) ?_
 refine zpu HT_ 6 49 (fl9_ 13 119) ?_
 refine take_ (i := 3) (N := some 46) (v := ?_) (a' := ?_) (fl9_ 13 127) rfl rfl (take_ofW HT_.out HW_.out (by kernel_rfl)) (fun _ _ _ h => h) (Or.inl ⟨by rfl, ?_⟩) hHeld ?_ ?_
 rotate_left
 ·rintro w' ⟨s0, s1, s2, s3⟩
  go_simp
  with_reducible rfl
 rotate_left
 ·simp only [Act.put, List.setIfInBounds_toArray, List.set_cons_zero, List.set_cons_succ, i64_w, i32_w]
  rfl
 refine take_ (i := 7) (N := some 50) (v := ?_) (a' := ?_) (fl9_ 13 255) rfl rfl (take_ofW HT_.out HW_.out (by kernel_rfl)) (fun _ _ _ h => h) (Or.inl ⟨by rfl, ?_⟩) hHeld ?_ ?_
 rotate_left
 ·rintro w' ⟨s0, s1, s2, s3⟩
  go_simp
  with_reducible rfl
 rotate_left
 ·simp only [Act.put, List.setIfInBounds_toArray, List.set_cons_zero, List.set_cons_succ, i64_w, i32_w]
  rfl
 refine zpu HT_ 8 51 (fl9_ 13 511) ?_
 refine zpu HT_ 9 52 (fl9_ 13 1023) ?_
 refine take_ (i := 10) (N := some 53) (v := ?_) (a' := ?_) (fl9_ 13 2047) rfl rfl (take_ofW HT_.out HW_.out (by kernel_rfl)) (fun _ _ _ h => h) (Or.inl ⟨by rfl, ?_⟩) hHeld ?_ ?_
 rotate_left
 ·rintro w' ⟨s0, s1, s2, s3⟩
  go_simp
  with_reducible rfl
 rotate_left
 ·simp only [Act.put, List.setIfInBounds_toArray, List.set_cons_zero, List.set_cons_succ, i64_w, i32_w]
  rfl
 refine zpu HT_ 11 54 (fl9_ 13 4095) ?_
 refine zpu HT_ 12 2 (fl9_ 13 8191) ?_
 refine done_ (done_of HT_.out (by kernel_rfl)) ?_
 try go_wp2
 go_ret
 exact ⟨by first | rfl | (simp [errW_none, errW_some] <;> rfl) | (simp only [← hji3]; first | rfl | (simp [errW_none, errW_some] <;> rfl)) | (simp [*, errW_none, errW_some] <;> rfl), zi127 HI0, zj127 HB, zk HK⟩
end Go.Proofs.YtcokeankiedfcaaDoor.XFnSuggest
