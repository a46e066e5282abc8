-- A text of this session: written by its own program (wip/x/xprint.py), which runs the kit's printer with contracts of its own.
import Derived.Test.YtcokeankiedfcaaDoorXFnTextx0
import Derived.Test.YtcokeankiedfcaaDoorXFnTextx1
import Derived.Test.YtcokeankiedfcaaDoorXFnTextx2
import Derived.Test.YtcokeankiedfcaaDoorXFnTextx6
namespace Go.Proofs.YtcokeankiedfcaaDoor.XFnText
open Go.RowKit Go.Proofs.YtcokeankiedfcaaDoorW.PrintWords Go.Proofs.YtcokeankiedfcaaDoorW.PrintLast Go.Proofs.YtcokeankiedfcaaDoorW.PrintMore
attribute [local go_sem] max2_int min2_int max_two min_two max_three min_three max_four min_four   -- for this text's walks alone
set_option linter.unusedVariables false
set_option linter.unusedSimpArgs false
def fl_ (n m : Nat) : Array Bool := ((List.range n).map fun i => m.testBit i).toArray

/-! ### impl_Break: function 33 -/
def impl_Break.cls (x : Int) : Int := (impl_Class.f 2 x).getD 0
theorem impl_Break.cls_eq (x : Int) : impl_Class.f 2 x = some (impl_Break.cls x) := by
  have h : ∃ r, impl_Class.f 2 x = some r := by
    have hw : ∀ a b, ∃ z, impl_within.f x a b = some z := by
      intro a b
      unfold impl_within.f
      by_cases h : x ≥ a
      · exact ⟨_, if_pos h⟩
      · exact ⟨_, if_neg h⟩
    have h1 : ∀ z, ∃ r, impl_Class.j1 1 x z = some r := by
      intro z
      obtain ⟨z1, e1⟩ := hw 12352 12543
      obtain ⟨z2, e2⟩ := hw 19968 40959
      simp only [impl_Class.j1, e1, e2, Option.bind_some]
      repeat' split
      all_goals exact ⟨_, rfl⟩
    have h0 : ∀ z, ∃ r, impl_Class.j0 2 x z = some r := by
      intro z
      obtain ⟨z1, e1⟩ := hw 48 57
      obtain ⟨r1, g1⟩ := h1 true
      obtain ⟨r2, g2⟩ := h1 (x == 95)
      simp only [impl_Class.j0, e1, Option.bind_some, g1, g2]
      repeat' split
      all_goals exact ⟨_, rfl⟩
    obtain ⟨z1, e1⟩ := hw 65 90
    obtain ⟨z2, e2⟩ := hw 97 122
    obtain ⟨z3, e3⟩ := hw 192 591
    obtain ⟨z4, e4⟩ := hw 880 1279
    unfold impl_Class.f
    simp only [e1, e2, e3, e4, Option.bind_some]
    repeat' split
    all_goals exact h0 _
  obtain ⟨r, hr⟩ := h
  unfold impl_Break.cls
  rw [hr]; rfl
def impl_Break.sol (R : List Int) (x : Int) : Bool := decide (0 ≤ x) && decide (x < (R.length : Int)) && (impl_Break.cls (rd R x) == 1 || impl_Break.cls (rd R x) == 2)
set_option maxRecDepth 1000000 in
set_option maxHeartbeats 2000000 in
theorem impl_Break.solid (x : Int) (b : Nat) (A : Option Addr) (c : Nat) (R : List Int) (W : World) (hx : W.cell? ⟨b, 0, none⟩ = some (.slice A R.length c)) (hR : Kd.C (Kd.int .i64) W A R.length R) (hc : R.length ≤ c) :
    Calls Tryd.prog 72 #[.int .i64 x, .pointer (some ⟨b, 0, none⟩)] W fun e w' => e = .returned (.bool (impl_Break.sol R x)) ∧ Drawn0 W w' := by
  unfold impl_Break.sol
  by_cases h0 : x < 0
  · rw [decide_eq_false (show ¬ 0 ≤ x by omega), Bool.false_and, Bool.false_and]
    have d0 : decide (x < 0) = true := decide_eq_true h0
    clear h0
    go_enter Tryd.func72, Tryd.ntmps72
    go_wp2
    go_ret
    exact ⟨rfl, Drawn0.refl _⟩
  · have d0 : decide (x < 0) = false := decide_eq_false h0
    rw [decide_eq_true (show 0 ≤ x by omega), Bool.true_and]
    by_cases h1 : x < (R.length : Int)
    · rw [decide_eq_true h1, Bool.true_and]
      obtain ⟨ad, rfl, hcell⟩ := Kd.at_int hR x (by omega) h1
      have d1 : decide ((R.length : Int) ≤ x) = false := decide_eq_false (by omega)
      have p1 := eq_true (show 0 ≤ x by omega)
      have p2 := eq_true h1
      have hcl := fun W' => impl_Class.calls 2 (rd R x) _ W' (impl_Break.cls_eq (rd R x))
      generalize impl_Break.cls (rd R x) = v at hcl ⊢
      clear h0 h1 hR
      by_cases k1 : v = 1
      · subst k1
        go_enter Tryd.func72, Tryd.ntmps72
        go_wp2_with (go_at_call 73; refine (hcl _).mono ?_; rintro e w' ⟨rfl, ⟨nd, rfl⟩⟩)
        go_ret
        exact ⟨rfl, ⟨nd, rfl⟩⟩
      · have e1 : (v == 1) = false := beq_eq_false_iff_ne.2 k1
        rw [e1, Bool.false_or]
        go_enter Tryd.func72, Tryd.ntmps72
        go_wp2_with (go_at_call 73; refine (hcl _).mono ?_; rintro e w' ⟨rfl, ⟨nd, rfl⟩⟩)
        go_ret
        exact ⟨rfl, ⟨nd, rfl⟩⟩
    · rw [decide_eq_false h1, Bool.false_and]
      have d1 : decide ((R.length : Int) ≤ x) = true := decide_eq_true (by omega)
      clear h0 h1
      go_enter Tryd.func72, Tryd.ntmps72
      go_wp2
      go_ret
      exact ⟨rfl, Drawn0.refl _⟩
theorem impl_Break.cell_al {W : World} {a : Addr} {v : Value} (h : W.cell? a = some v) (o : Obj) : (W.alloc o).cell? a = some v := (World.cell?_alloc_lt _ _ _ (World.block_lt_of_cell? W a h)).trans h
def impl_Break.tok (text : ByteArray) (n : Nat) (p q : Int) : S53 := ⟨text.extract p.toNat q.toNat, (n : Int), p, q⟩
def impl_Break.put.T0 : Bool × List (List Nat × List Nat) := (true, [([], []), ([], []), ([], []), ([], []), ([2, 3], [2, 3]), ([4], [4]), ([], []), ([], []), ([6, 7], [6, 7]), ([8], [8]), ([1, 5, 9], [1, 5, 9]), ([], []), ([11], [11]), ([], []), ([], []), ([13, 14], [13, 14]), ([15], [15]), ([], []), ([], []), ([17, 18], [17, 18]), ([19], [19]), ([10, 12, 16, 20], [10, 12, 16, 20]), ([21], [21]), ([0, 22], [0, 22]), ([23, 23, 0, 1, 2, 3, 4, 5, 6, 7, 8, 9, 10, 11, 12, 13, 14, 15, 16, 17, 18, 19, 20, 21, 22, 23], [23])])
def impl_Break.put.B0 : List Nat := [0, 0, 0, 0, 12, 28, 0, 0, 192, 448, 1022, 0, 2048, 0, 0, 24576, 57344, 0, 0, 393216, 917504, 2097150, 4194302, 8388607, 16777215]
theorem impl_Break.put.tab0 : rtab .any (opsOf Tryd.f74 0) = impl_Break.put.T0 := by kernel_rfl
theorem impl_Break.put.bits0 : waitsOk impl_Break.put.T0.2 impl_Break.put.B0 = true := by kernel_rfl
set_option maxRecDepth 1000000 in
set_option maxHeartbeats 4000000 in
theorem impl_Break.putc (i j : Int) (bo bt ba : Nat) (v : Value) (out : List S53) (text : ByteArray) (A : Option Addr) (c : Nat) (AT : List Int) (base : Nat) (W : World)
    (ho : W.heap[bo]? = some (.cells #[v] 45 (0, 0))) (hR : Kd.R k53 53 W base (fun _ => True) v out)
    (ht : W.heap[bt]? = some (.cells #[.string text] 9 (0, 0))) (ha : W.heap[ba]? = some (.cells #[.slice A AT.length c] 22 (0, 0))) (hA : Kd.R (Kd.int .i64) 3 W base (fun _ => True) (.slice A AT.length c) AT)
    (hi0 : 0 ≤ i) (hi1 : i < (AT.length : Int)) (hj0 : 0 ≤ j) (hj1 : j < (AT.length : Int)) (h1 : 0 ≤ rd AT i) (h2 : rd AT i ≤ rd AT j) (h3 : rd AT j ≤ (text.size : Int)) (hlen : out.length < 1000000) (hbase : base ≤ W.heap.size) (hbo : base ≤ bo) :
    Calls Tryd.prog 74 #[.int .i64 i, .int .i64 j, .pointer (some ⟨bo, 0, none⟩), .pointer (some ⟨bt, 0, none⟩), .pointer (some ⟨ba, 0, none⟩)] W fun e w' => e = .returned (.tuple #[]) ∧ ∃ v', w'.heap[bo]? = some (.cells #[v'] 45 (0, 0)) ∧ Kd.R k53 53 w' base (fun _ => True) v' (out ++ [impl_Break.tok text out.length (rd AT i) (rd AT j)]) ∧ KeepBut W w' bo v.ownBlock ∧ Below base W w' ∧ (v'.ownBlock = v.ownBlock ∨ ∃ b, v'.ownBlock = some b ∧ W.heap.size ≤ b) := by
  obtain ⟨_, _, eA, hc, hAC⟩ := Kd.R_reads hA
  injection eA with e1 _ e3
  subst e1 e3
  obtain ⟨ad, rfl, hci⟩ := Kd.at_int hAC i hi0 hi1
  obtain ⟨ad2, e2, hcj⟩ := Kd.at_int hAC j hj0 hj1
  cases e2
  obtain ⟨Ao, co, rfl⟩ := Kd.R_slice hR
  have p1 := eq_true hi0
  have p2 := eq_true hi1
  have p3 := eq_true hj0
  have p4 := eq_true hj1
  have p5 := eq_true h1
  have p6 := eq_true h2
  have p7 := eq_true h3
  have q5 := decide_eq_true h1
  have q6 := decide_eq_true h2
  have q7 := decide_eq_true h3
  have HNT := Aside0.mk (Kd.R_ne hR ht (by decide))
  have HNA := Aside0.mk (Kd.R_ne hR ha (by decide))
  have HNO := Aside0.mk (Kd.R_ne hR ho (by decide))
  have HND : Aside0 (some ad.block ≠ (Value.slice Ao out.length co).ownBlock) := ⟨by
    obtain ⟨cells, hcl⟩ := Kd.R_typed hA ad.block rfl
    exact Kd.R_ne hR hcl (by decide)⟩
  have HO : Aside0 (W.drew.heap[bo]? = some (.cells #[.slice Ao out.length co] 45 (0, 0))) := ⟨ho⟩
  have HR : Aside0 (Kd.R k53 53 W.drew base (fun _ => True) (.slice Ao out.length co) out) := ⟨Kd.R_drew hR⟩
  have hx0 : W.drew.cell? ⟨bo, 0, none⟩ = some (.slice Ao out.length co) := (blk_cell HO.out 0).trans rfl
  have hx1 : W.drew.cell? ⟨bt, 0, none⟩ = some (.string text) := (blk_cell (w := W.drew) ht 0).trans rfl
  have hx2 : W.drew.cell? ⟨ba, 0, none⟩ = some (.slice (some ad) AT.length c) := (blk_cell (w := W.drew) ha 0).trans rfl
  have hx3 : W.drew.cell? (ad.add i.toNat) = some (.int .i64 (rd AT i)) := hci
  have hx4 : W.drew.cell? (ad.add j.toNat) = some (.int .i64 (rd AT j)) := hcj
  have HL := Aside0.mk hlen
  have HE : Aside0 (base ≤ W.drew.heap.size) := ⟨hbase⟩
  have HF := Aside0.mk hbo
  have HK := Aside0.mk (keep_drew (KeepBut.refl W bo (Value.slice Ao out.length co).ownBlock))
  have HB : Aside0 (Below base W W.drew) := ⟨(Below.refl base W).drew⟩
  have HZ : Aside0 (W.heap.size ≤ W.drew.heap.size) := ⟨Nat.le_refl _⟩
  clear hi0 hi1 hj0 hj1 h1 h2 h3 hA hAC ho hR hlen hbase hbo ht ha hci hcj hc
  go_enter Tryd.func74, Tryd.ntmps74
  refine start_ (n := 25) (S := fun w' => w'.cell? ⟨bo, 0, none⟩ = some (.slice Ao out.length co) ∧ w'.cell? ⟨bt, 0, none⟩ = some (.string text) ∧ w'.cell? ⟨ba, 0, none⟩ = some (.slice (some ad) AT.length c) ∧ w'.cell? (ad.add i.toNat) = some (.int .i64 (rd AT i)) ∧ w'.cell? (ad.add j.toNat) = some (.int .i64 (rd AT j))) (ds := [24]) (fl_ 25 0) (by kernel_rfl) rfl rfl ⟨hx0, hx1, hx2, hx3, hx4⟩ (fun hHeld => ?_); refine with_tabW impl_Break.put.tab0 impl_Break.put.bits0 (fun HT_ HW_ => ?_)
  generalize W.drew = W1 at HO HR HE HK HB HZ hx0 hx1 hx2 hx3 hx4 hHeld ⊢
  refine take_ (i := 0) (N := some 7) (v := ?_) (a' := ?_) (fl_ 25 1) rfl rfl (take_ofW HT_.out HW_.out (by kernel_rfl)) (fun _ _ _ h => h) (Or.inl ⟨by rfl, ?_⟩) hHeld ?_ ?_
  rotate_left
  · rintro w' ⟨s0, s1, s2, s3, s4⟩
    go_simp
    with_reducible rfl
  rotate_left
  · simp only [Act.put, List.setIfInBounds_toArray, List.set_cons_zero, List.set_cons_succ, i64_w, i32_w]
    rfl
  refine take_ (i := 1) (N := some 8) (v := ?_) (a' := ?_) (fl_ 25 3) rfl rfl (take_ofW HT_.out HW_.out (by kernel_rfl)) (fun _ _ _ h => h) (Or.inl ⟨by rfl, ?_⟩) hHeld ?_ ?_
  rotate_left
  · rintro w' ⟨s0, s1, s2, s3, s4⟩
    go_simp
    with_reducible rfl
  rotate_left
  · simp only [Act.put, List.setIfInBounds_toArray, List.set_cons_zero, List.set_cons_succ, i64_w, i32_w]
    rfl
  refine take_ (i := 2) (N := some 9) (v := ?_) (a' := ?_) (fl_ 25 7) rfl rfl (take_ofW HT_.out HW_.out (by kernel_rfl)) (fun _ _ _ h => h) (Or.inl ⟨by rfl, ?_⟩) hHeld ?_ ?_
  rotate_left
  · rintro w' ⟨s0, s1, s2, s3, s4⟩
    go_simp
    with_reducible rfl
  rotate_left
  · simp only [Act.put, List.setIfInBounds_toArray, List.set_cons_zero, List.set_cons_succ, i64_w, i32_w]
    rfl
  refine pure_ (i := 3) (N := some 10) (v := ?_) (a' := ?_) (fl_ 25 15) rfl rfl (any_of HT_.out (by kernel_rfl)) (fun _ _ _ h => h) (Or.inl ⟨by rfl, ?_⟩) ?_ ?_
  rotate_left
  · intro w'
    go_simp
    with_reducible rfl
  rotate_left
  · simp only [Act.put, List.setIfInBounds_toArray, List.set_cons_zero, List.set_cons_succ, i64_w, i32_w]
    rfl
  refine pure_ (i := 4) (N := some 11) (v := ?_) (a' := ?_) (fl_ 25 31) rfl rfl (any_of HT_.out (by kernel_rfl)) (fun _ _ _ h => h) (Or.inl ⟨by rfl, ?_⟩) ?_ ?_
  rotate_left
  · intro w'
    go_simp
    with_reducible rfl
  rotate_left
  · simp only [Act.put, List.setIfInBounds_toArray, List.set_cons_zero, List.set_cons_succ, i64_w, i32_w]
    rfl
  refine take_ (i := 5) (N := some 12) (v := ?_) (a' := ?_) (fl_ 25 63) rfl rfl (take_ofW HT_.out HW_.out (by kernel_rfl)) (fun _ _ _ h => h) (Or.inl ⟨by rfl, ?_⟩) hHeld ?_ ?_
  rotate_left
  · rintro w' ⟨s0, s1, s2, s3, s4⟩
    go_simp
    with_reducible rfl
  rotate_left
  · simp only [Act.put, List.setIfInBounds_toArray, List.set_cons_zero, List.set_cons_succ, i64_w, i32_w]
    rfl
  refine take_ (i := 6) (N := some 13) (v := ?_) (a' := ?_) (fl_ 25 127) rfl rfl (take_ofW HT_.out HW_.out (by kernel_rfl)) (fun _ _ _ h => h) (Or.inl ⟨by rfl, ?_⟩) hHeld ?_ ?_
  rotate_left
  · rintro w' ⟨s0, s1, s2, s3, s4⟩
    go_simp
    with_reducible rfl
  rotate_left
  · simp only [Act.put, List.setIfInBounds_toArray, List.set_cons_zero, List.set_cons_succ, i64_w, i32_w]
    rfl
  refine pure_ (i := 7) (N := some 14) (v := ?_) (a' := ?_) (fl_ 25 255) rfl rfl (any_of HT_.out (by kernel_rfl)) (fun _ _ _ h => h) (Or.inl ⟨by rfl, ?_⟩) ?_ ?_
  rotate_left
  · intro w'
    go_simp
    with_reducible rfl
  rotate_left
  · simp only [Act.put, List.setIfInBounds_toArray, List.set_cons_zero, List.set_cons_succ, i64_w, i32_w]
    rfl
  refine pure_ (i := 8) (N := some 15) (v := ?_) (a' := ?_) (fl_ 25 511) rfl rfl (any_of HT_.out (by kernel_rfl)) (fun _ _ _ h => h) (Or.inl ⟨by rfl, ?_⟩) ?_ ?_
  rotate_left
  · intro w'
    go_simp
    with_reducible rfl
  rotate_left
  · simp only [Act.put, List.setIfInBounds_toArray, List.set_cons_zero, List.set_cons_succ, i64_w, i32_w]
    rfl
  refine take_ (i := 9) (N := some 16) (v := ?_) (a' := ?_) (fl_ 25 1023) rfl rfl (take_ofW HT_.out HW_.out (by kernel_rfl)) (fun _ _ _ h => h) (Or.inl ⟨by rfl, ?_⟩) hHeld ?_ ?_
  rotate_left
  · rintro w' ⟨s0, s1, s2, s3, s4⟩
    go_simp
    with_reducible rfl
  rotate_left
  · simp only [Act.put, List.setIfInBounds_toArray, List.set_cons_zero, List.set_cons_succ, i64_w, i32_w]
    rfl
  refine pure_ (i := 10) (N := some 17) (v := ?_) (a' := ?_) (fl_ 25 2047) rfl rfl (any_of HT_.out (by kernel_rfl)) (fun _ _ _ h => h) (Or.inl ⟨by rfl, ?_⟩) ?_ ?_
  rotate_left
  · intro w'
    go_simp
    with_reducible rfl
  rotate_left
  · simp only [Act.put, List.setIfInBounds_toArray, List.set_cons_zero, List.set_cons_succ, i64_w, i32_w]
    rfl
  refine take_ (i := 11) (N := some 18) (v := ?_) (a' := ?_) (fl_ 25 4095) rfl rfl (take_ofW HT_.out HW_.out (by kernel_rfl)) (fun _ _ _ h => h) (Or.inl ⟨by rfl, ?_⟩) hHeld ?_ ?_
  rotate_left
  · rintro w' ⟨s0, s1, s2, s3, s4⟩
    go_simp
    with_reducible rfl
  rotate_left
  · simp only [Act.put, List.setIfInBounds_toArray, List.set_cons_zero, List.set_cons_succ, i64_w, i32_w]
    rfl
  refine pure_ (i := 12) (N := some 19) (v := ?_) (a' := ?_) (fl_ 25 8191) rfl rfl (any_of HT_.out (by kernel_rfl)) (fun _ _ _ h => h) (Or.inl ⟨by rfl, ?_⟩) ?_ ?_
  rotate_left
  · intro w'
    go_simp
    with_reducible rfl
  rotate_left
  · simp only [Act.put, List.setIfInBounds_toArray, List.set_cons_zero, List.set_cons_succ, i64_w, i32_w]
    rfl
  refine take_ (i := 13) (N := some 20) (v := ?_) (a' := ?_) (fl_ 25 16383) rfl rfl (take_ofW HT_.out HW_.out (by kernel_rfl)) (fun _ _ _ h => h) (Or.inl ⟨by rfl, ?_⟩) hHeld ?_ ?_
  rotate_left
  · rintro w' ⟨s0, s1, s2, s3, s4⟩
    go_simp
    with_reducible rfl
  rotate_left
  · simp only [Act.put, List.setIfInBounds_toArray, List.set_cons_zero, List.set_cons_succ, i64_w, i32_w]
    rfl
  refine pure_ (i := 14) (N := some 21) (v := ?_) (a' := ?_) (fl_ 25 32767) rfl rfl (any_of HT_.out (by kernel_rfl)) (fun _ _ _ h => h) (Or.inl ⟨by rfl, ?_⟩) ?_ ?_
  rotate_left
  · intro w'
    go_simp
    with_reducible rfl
  rotate_left
  · simp only [Act.put, List.setIfInBounds_toArray, List.set_cons_zero, List.set_cons_succ, i64_w, i32_w]
    rfl
  refine pure_ (i := 15) (N := some 22) (v := ?_) (a' := ?_) (fl_ 25 65535) rfl rfl (any_of HT_.out (by kernel_rfl)) (fun _ _ _ h => h) (Or.inl ⟨by rfl, ?_⟩) ?_ ?_
  rotate_left
  · intro w'
    go_simp
    with_reducible rfl
  rotate_left
  · simp only [Act.put, List.setIfInBounds_toArray, List.set_cons_zero, List.set_cons_succ, i64_w, i32_w]
    rfl
  refine take_ (i := 16) (N := some 23) (v := ?_) (a' := ?_) (fl_ 25 131071) rfl rfl (take_ofW HT_.out HW_.out (by kernel_rfl)) (fun _ _ _ h => h) (Or.inl ⟨by rfl, ?_⟩) hHeld ?_ ?_
  rotate_left
  · rintro w' ⟨s0, s1, s2, s3, s4⟩
    go_simp
    with_reducible rfl
  rotate_left
  · simp only [Act.put, List.setIfInBounds_toArray, List.set_cons_zero, List.set_cons_succ, i64_w, i32_w]
    rfl
  refine take_ (i := 17) (N := some 24) (v := ?_) (a' := ?_) (fl_ 25 262143) rfl rfl (take_ofW HT_.out HW_.out (by kernel_rfl)) (fun _ _ _ h => h) (Or.inl ⟨by rfl, ?_⟩) hHeld ?_ ?_
  rotate_left
  · rintro w' ⟨s0, s1, s2, s3, s4⟩
    go_simp
    with_reducible rfl
  rotate_left
  · simp only [Act.put, List.setIfInBounds_toArray, List.set_cons_zero, List.set_cons_succ, i64_w, i32_w]
    rfl
  refine pure_ (i := 18) (N := some 25) (v := ?_) (a' := ?_) (fl_ 25 524287) rfl rfl (any_of HT_.out (by kernel_rfl)) (fun _ _ _ h => h) (Or.inl ⟨by rfl, ?_⟩) ?_ ?_
  rotate_left
  · intro w'
    go_simp
    with_reducible rfl
  rotate_left
  · simp only [Act.put, List.setIfInBounds_toArray, List.set_cons_zero, List.set_cons_succ, i64_w, i32_w]
    rfl
  refine pure_ (i := 19) (N := some 26) (v := ?_) (a' := ?_) (fl_ 25 1048575) rfl rfl (any_of HT_.out (by kernel_rfl)) (fun _ _ _ h => h) (Or.inl ⟨by rfl, ?_⟩) ?_ ?_
  rotate_left
  · intro w'
    go_simp
    with_reducible rfl
  rotate_left
  · simp only [Act.put, List.setIfInBounds_toArray, List.set_cons_zero, List.set_cons_succ, i64_w, i32_w]
    rfl
  refine take_ (i := 20) (N := some 27) (v := ?_) (a' := ?_) (fl_ 25 2097151) rfl rfl (take_ofW HT_.out HW_.out (by kernel_rfl)) (fun _ _ _ h => h) (Or.inl ⟨by rfl, ?_⟩) hHeld ?_ ?_
  rotate_left
  · rintro w' ⟨s0, s1, s2, s3, s4⟩
    go_simp
    with_reducible rfl
  rotate_left
  · simp only [Act.put, List.setIfInBounds_toArray, List.set_cons_zero, List.set_cons_succ, i64_w, i32_w]
    rfl
  refine pure_ (i := 21) (N := some 28) (v := ?_) (a' := ?_) (fl_ 25 4194303) rfl rfl (any_of HT_.out (by kernel_rfl)) (fun _ _ _ h => h) (Or.inl ⟨by rfl, ?_⟩) ?_ ?_
  rotate_left
  · intro w'
    go_simp
    with_reducible rfl
  rotate_left
  · simp only [Act.put, List.setIfInBounds_toArray, List.set_cons_zero, List.set_cons_succ, i64_w, i32_w]
    rfl
  refine one_ (i := 22) (N := some 29) (fl_ 25 8388607) rfl rfl (one_of HT_.out (by kernel_rfl)) (by decide) (fun K hK => ?_)
  refine value_ (w1 := ?_) (v := ?_) (by rfl) rfl ?_ ?_
  rotate_left 2
  · go_simp
    constructor
    · rfl
    · rfl
  refine hK.out _ _ ⟨impl_Break.cell_al hx0 _, impl_Break.cell_al hx1 _, impl_Break.cell_al hx2 _, impl_Break.cell_al hx3 _, impl_Break.cell_al hx4 _⟩ (fun hHeld => ?_)
  clear hK K
  refine norm_ (a' := ?_) ?_ ?_
  rotate_left
  · show Act.put _ (some 29) _ = _
    simp only [Act.put, List.setIfInBounds_toArray, List.set_cons_zero, List.set_cons_succ, i64_w, i32_w]
    rfl
  refine one_ (i := 23) (N := some 30) (fl_ 25 16777215) rfl rfl (one_of HT_.out (by kernel_rfl)) (by decide) (fun K hK => ?_)
  refine Kd.R_append_step k53 base (by rfl) (.tmp 7) (.tmp 29) 45 53 (.agg #[(.string ⟨#[]⟩), (.int .i64 0), (.int .i64 0), (.int .i64 0)]) 40 rfl Tryd.underlying45 info53 rfl (by decide) (by omega) (.slice Ao out.length co) out (impl_Break.tok text out.length (rd AT i) (rd AT j)) [.string (text.extract (rd AT i).toNat (rd AT j).toNat), .int .i64 (out.length : Int), .int .i64 (rd AT i), .int .i64 (rd AT j)] (fun _ => True) (fun _ => False) rfl rfl (k53_mkM _ _ _ (impl_Break.tok text out.length (rd AT i) (rd AT j))) (fun _ hk => hk.elim) (fun _ _ => trivial) HR.out HB.out HE.out (by have := HL.out; omega) ?_
  intro v1 w1 ho1 hb1 hg1 hat1
  obtain ⟨Ao1, co1, rfl⟩ := Kd.R_slice ho1
  have HO1 := Aside0.mk (blk_grown HO.out hg1 HNO.out)
  have hy0 : w1.cell? ⟨bo, 0, none⟩ = some (.slice Ao out.length co) := (blk_cell HO1.out 0).trans rfl
  have hy1 := hg1.cell hx1 HNT.out
  have hy2 := hg1.cell hx2 HNA.out
  have hy3 := hg1.cell hx3 (show some (ad.add i.toNat).block ≠ _ by rw [show (ad.add i.toNat).block = ad.block from by unfold Addr.add; split <;> rfl]; exact HND.out)
  have hy4 := hg1.cell hx4 (show some (ad.add j.toNat).block ≠ _ by rw [show (ad.add j.toNat).block = ad.block from by unfold Addr.add; split <;> rfl]; exact HND.out)
  have hfz := blk_frozen HO1.out 0
  have HR1 := Aside0.mk ho1
  have HB1 := Aside0.mk hb1
  have HK1 := Aside0.mk (HK.out.trans (KeepBut.of_grown hg1 bo) (.inl rfl))
  have HT1 := Aside0.mk hat1
  have HG1 := Aside0.mk hg1.size
  clear hx0 hx1 hx2 hx3 hx4 hHeld HO HR HK HB ho1 hb1 hg1 hat1
  refine hK.out _ _ ⟨hy0, hy1, hy2, hy3, hy4⟩ (fun hHeld => ?_)
  clear hK K
  refine norm_ (a' := ?_) ?_ ?_
  rotate_left
  · show Act.put _ (some 30) _ = _
    simp only [Act.put, List.setIfInBounds_toArray, List.set_cons_zero, List.set_cons_succ, i64_w, i32_w]
    rfl
  refine last_ (i := 24) (N := none) (fl_ 25 33554431) rfl rfl (one_of HT_.out (by kernel_rfl)) (by decide) (fun K hK => ?_)
  refine skip_ (w1 := ?_) (by rfl) rfl ?_ ?_
  rotate_left
  · go_simp
    rfl
  refine hK.out _ _ ?_
  clear hK K
  refine done_ (done_of HT_.out (by kernel_rfl)) ?_
  try go_wp2
  go_end0
  have hn : (W1.heap.size : Nat) = W1.heap.size := rfl
  have HO2 : Aside0 ((w1.setCell ⟨bo, 0, none⟩ (Value.slice Ao1 (out.length + 1) co1)).heap[bo]? = some (.cells #[Value.slice Ao1 (out.length + 1) co1] 45 (0, 0))) := ⟨by rw [setCell_eq_setRow w1 bo 0 _ 45 (0, 0) _ HO1.out]; exact setRow_heap w1 bo _ _ 45 _ HO1.out⟩
  have e1 : (out ++ [impl_Break.tok text out.length (rd AT i) (rd AT j)]).length = out.length + 1 := by simp
  rw [e1] at HR1 HT1
  exact ⟨rfl, _, HO2.out, Kd.R_mono (Kd.R_far (p := ⟨bo, 0, none⟩) (Kd.R_types HR1.out HO1.out (by decide)) (fun _ hk => hk.2) _) (fun _ _ => trivial), HK1.out.set_ 0 _, Below.grown HB1.out (row := some bo) ⟨rfl, rfl, rfl, by simp [World.setCell], fun k _ hk => Below.heap_setCell w1 ⟨bo, 0, none⟩ _ k (fun e => hk (by rw [e]))⟩ (Nat.le_trans HE.out HG1.out) (fun k hk => by cases hk; exact HF.out), HT1.out.imp id (fun ⟨b, h1, h2⟩ => ⟨b, h1, Nat.le_trans HZ.out h2⟩)⟩
def impl_Break.poss (s : ByteArray) : Nat → Nat → List Int
  | 0, _ => []
  | n + 1, pos => if pos < s.size then (pos : Int) :: impl_Break.poss s n (pos + (Utf8.decode s pos).2) else []
theorem impl_Break.poss_end (s : ByteArray) (fuel pos : Nat) (h : ¬ pos < s.size) : impl_Break.poss s fuel pos = [] := by
  cases fuel with
  | zero => rfl
  | succ n => simp [impl_Break.poss, h]
theorem impl_Break.box_iter {W : World} {b k t : Nat} {cs : Array Value} (h : W.heap[b]? = some (.cells cs t (0, 0))) (hk : b ≠ k) (s : ByteArray) (p : Nat) : (W.iterAt k s p).heap[b]? = some (.cells cs t (0, 0)) := by
  rw [Lib.iterAt_other _ _ _ _ _ hk]; exact h
theorem impl_Break.ne_iter {W : World} {b k t : Nat} {cs : Array Value} {s : ByteArray} {p : Nat} (h : W.heap[b]? = some (.cells cs t (0, 0))) (hk : W.heap[k]? = some (.stringIter s p)) : b ≠ k := by
  rintro rfl
  rw [h] at hk; cases hk
theorem impl_Break.R_iter {W : World} {base k : Nat} {ok : Nat → Prop} {v : Value} {xs : List Int} {s0 : ByteArray} {p0 : Nat} (h : Kd.R (Kd.int .i64) 3 W base ok v xs) (hk : W.heap[k]? = some (.stringIter s0 p0)) (s : ByteArray) (p : Nat) : Kd.R (Kd.int .i64) 3 (W.iterAt k s p) base ok v xs := by
  refine Kd.R_mono (Kd.R_move (Kd.R_bound h) (fun j hj => ?_)) (fun _ hk => hk.1)
  refine Lib.iterAt_other _ _ _ _ _ ?_
  rintro rfl
  obtain ⟨_, _, _, q, _, cells, hc⟩ := hj
  rw [hc] at hk; cases hk
theorem impl_Break.set_box {W : World} {b t : Nat} {v : Value} (h : W.heap[b]? = some (.cells #[v] t (0, 0))) (u : Value) : (W.setCell ⟨b, 0, none⟩ u).heap[b]? = some (.cells #[u] t (0, 0)) := by
  rw [setCell_eq_setRow W b 0 _ t (0, 0) _ h]; exact setRow_heap W b _ _ t _ h
theorem impl_Break.set_other {W : World} {b k : Nat} {o : Obj} (h : W.heap[k]? = some o) (hk : k ≠ b) (u : Value) : (W.setCell ⟨b, 0, none⟩ u).heap[k]? = some o := (Below.heap_setCell W ⟨b, 0, none⟩ u k hk).trans h
theorem impl_Break.set_R {W : World} {b t : Nat} {v : Value} (h : W.heap[b]? = some (.cells #[v] t (0, 0))) (ht : t ≠ 3) {base : Nat} {ok : Nat → Prop} {r : Value} {xs : List Int} (hR : Kd.R (Kd.int .i64) 3 W base ok r xs) (u : Value) : Kd.R (Kd.int .i64) 3 (W.setCell ⟨b, 0, none⟩ u) base ok r xs :=
  Kd.R_mono (Kd.R_far (p := ⟨b, 0, none⟩) (Kd.R_types hR h (fun q hq => by
    rcases List.mem_cons.1 hq with rfl | hq
    · exact fun e => ht e.symm
    · cases hq)) (fun _ hk => hk.2) u) (fun _ hk => hk.1)
theorem impl_Break.set_below {W w : World} {B b : Nat} (h : Below B w W) (hb : B ≤ b) (u : Value) : Below B w (W.setCell ⟨b, 0, none⟩ u) := h.setCell hb u
/-- While the text is read: the reader's place, the three variables in memory and their rows. -/
def impl_Break.PH (a0 : ByteArray) (w : World) (b6 it pos : Nat) (v1 v2 : Value) (l1 l2 : List Int) (W : World) : Prop := W.heap[it]? = some (.stringIter a0 pos) ∧ W.heap[w.heap.size]? = some (.cells #[.string a0] 9 (0, 0)) ∧ W.heap[b6]? = some (.cells #[v1] 22 (0, 0)) ∧ W.heap[b6 + 1]? = some (.cells #[v2] 22 (0, 0)) ∧ Kd.R (Kd.int .i64) 3 W w.heap.size (fun k => True ∧ some k ≠ v2.ownBlock) v1 l1 ∧ Kd.R (Kd.int .i64) 3 W w.heap.size (fun k => True ∧ some k ≠ v1.ownBlock) v2 l2 ∧ Below w.heap.size w W ∧ w.heap.size < b6 ∧ b6 + 1 < it
theorem impl_Break.PH.step {a0 : ByteArray} {w W : World} {b6 it pos : Nat} {v1 v2 : Value} {l1 l2 : List Int} (h : impl_Break.PH a0 w b6 it pos v1 v2 l1 l2 W) (p : Nat) : impl_Break.PH a0 w b6 it p v1 v2 l1 l2 (W.iterAt it a0 p) := by
  obtain ⟨h1, h2, h3, h4, h5, h6, h7, h8, h9⟩ := h
  exact ⟨Lib.iterAt_heap W it a0 pos p h1, impl_Break.box_iter h2 (by omega) a0 p, impl_Break.box_iter h3 (by omega) a0 p, impl_Break.box_iter h4 (by omega) a0 p, impl_Break.R_iter h5 h1 a0 p, impl_Break.R_iter h6 h1 a0 p, Lib.below_iterAt h7 (k := it) (by omega) a0 p, h8, h9⟩
theorem impl_Break.iter_ne {W : World} {it pos base : Nat} {a0 : ByteArray} {ok : Nat → Prop} {v : Value} {xs : List Int} (h : W.heap[it]? = some (.stringIter a0 pos)) (hR : Kd.R (Kd.int .i64) 3 W base ok v xs) : some it ≠ v.ownBlock := by
  intro e
  obtain ⟨cells, hc⟩ := Kd.R_typed hR it e.symm
  rw [h] at hc; cases hc
theorem impl_Break.PH.app1 {a0 : ByteArray} {w W W3 : World} {b6 it pos : Nat} {v1 v2 v1' : Value} {l1 l2 : List Int} {x : Int} (h : impl_Break.PH a0 w b6 it pos v1 v2 l1 l2 W)
    (ho : Kd.R (Kd.int .i64) 3 W3 w.heap.size (fun k => True ∧ some k ≠ v2.ownBlock) v1' (l1 ++ [x])) (hb : Below w.heap.size w W3) (hg : W.grownBy W3 v1.ownBlock) (hat : v1'.ownBlock = v1.ownBlock ∨ ∃ b, v1'.ownBlock = some b ∧ W.heap.size ≤ b) :
    impl_Break.PH a0 w b6 it pos v1' v2 (l1 ++ [x]) l2 (W3.setCell ⟨b6, 0, none⟩ v1') := by
  obtain ⟨h1, h2, h3, h4, h5, h6, h7, h8, h9⟩ := h
  have g1 := (hg.block it (lt_of_block h1) (impl_Break.iter_ne h1 h5)).trans h1
  have g2 := blk_grown h2 hg (Kd.R_ne h5 h2 (by decide))
  have g3 := blk_grown h3 hg (Kd.R_ne h5 h3 (by decide))
  have g4 := blk_grown h4 hg (Kd.R_ne h5 h4 (by decide))
  have g6 := Kd.R_after (ok := fun _ => True) h6 hg hat
  exact ⟨impl_Break.set_other g1 (by omega) _, impl_Break.set_other g2 (by omega) _, impl_Break.set_box g3 _, impl_Break.set_other g4 (by omega) _, impl_Break.set_R g3 (by decide) ho _, impl_Break.set_R g3 (by decide) g6 _, impl_Break.set_below hb (by omega) _, h8, h9⟩
theorem impl_Break.PH.app2 {a0 : ByteArray} {w W W3 : World} {b6 it pos : Nat} {v1 v2 v2' : Value} {l1 l2 : List Int} {x : Int} (h : impl_Break.PH a0 w b6 it pos v1 v2 l1 l2 W)
    (ho : Kd.R (Kd.int .i64) 3 W3 w.heap.size (fun k => True ∧ some k ≠ v1.ownBlock) v2' (l2 ++ [x])) (hb : Below w.heap.size w W3) (hg : W.grownBy W3 v2.ownBlock) (hat : v2'.ownBlock = v2.ownBlock ∨ ∃ b, v2'.ownBlock = some b ∧ W.heap.size ≤ b) :
    impl_Break.PH a0 w b6 it pos v1 v2' l1 (l2 ++ [x]) (W3.setCell ⟨b6 + 1, 0, none⟩ v2') := by
  obtain ⟨h1, h2, h3, h4, h5, h6, h7, h8, h9⟩ := h
  have g1 := (hg.block it (lt_of_block h1) (impl_Break.iter_ne h1 h6)).trans h1
  have g2 := blk_grown h2 hg (Kd.R_ne h6 h2 (by decide))
  have g3 := blk_grown h3 hg (Kd.R_ne h6 h3 (by decide))
  have g4 := blk_grown h4 hg (Kd.R_ne h6 h4 (by decide))
  have g5 := Kd.R_after (ok := fun _ => True) h5 hg hat
  exact ⟨impl_Break.set_other g1 (by omega) _, impl_Break.set_other g2 (by omega) _, impl_Break.set_other g3 (by omega) _, impl_Break.set_box g4 _, impl_Break.set_R g4 (by decide) g5 _, impl_Break.set_R g4 (by decide) ho _, impl_Break.set_below hb (by omega) _, h8, h9⟩
theorem impl_Break.PH.fresh1 {a0 : ByteArray} {w W : World} {b6 it pos : Nat} {v1 v2 : Value} {l1 l2 : List Int} (h : impl_Break.PH a0 w b6 it pos v1 v2 l1 l2 W) : ∀ k, W.heap.size ≤ k → True ∧ some k ≠ v2.ownBlock := fun k hk => ⟨trivial, fun e => by have := Kd.R_lt h.2.2.2.2.2.1 k e.symm; omega⟩
theorem impl_Break.PH.fresh2 {a0 : ByteArray} {w W : World} {b6 it pos : Nat} {v1 v2 : Value} {l1 l2 : List Int} (h : impl_Break.PH a0 w b6 it pos v1 v2 l1 l2 W) : ∀ k, W.heap.size ≤ k → True ∧ some k ≠ v1.ownBlock := fun k hk => ⟨trivial, fun e => by have := Kd.R_lt h.2.2.2.2.1 k e.symm; omega⟩
theorem impl_Break.poss_len (s : ByteArray) (fuel : Nat) : ∀ pos, (impl_Break.poss s fuel pos).length ≤ fuel ∧ (impl_Break.poss s fuel pos).length = (impl_Decode.runes s fuel pos).length := by
  induction fuel with
  | zero => intro pos; exact ⟨Nat.le_refl _, rfl⟩
  | succ n ih =>
    intro pos
    rw [impl_Break.poss, impl_Decode.runes]
    by_cases h : pos < s.size
    · rw [if_pos h, if_pos h, List.length_cons, List.length_cons]
      have := ih (pos + (Utf8.decode s pos).2)
      omega
    · rw [if_neg h, if_neg h]; exact ⟨Nat.zero_le _, rfl⟩
/-- While the words are told: the variables in memory and their rows. -/
def impl_Break.MS (a0 : ByteArray) (w : World) (b6 bo : Nat) (A1 A4 : Option Addr) (c1 c4 : Nat) (R AT : List Int) (vo : Value) (out : List S53) (W : World) : Prop := W.heap[w.heap.size]? = some (.cells #[.string a0] 9 (0, 0)) ∧ W.heap[b6]? = some (.cells #[.slice A1 R.length c1] 22 (0, 0)) ∧ W.heap[b6 + 1]? = some (.cells #[.slice A4 AT.length c4] 22 (0, 0)) ∧ W.heap[bo]? = some (.cells #[vo] 45 (0, 0)) ∧ Kd.R (Kd.int .i64) 3 W w.heap.size (fun _ => True) (.slice A1 R.length c1) R ∧ Kd.R (Kd.int .i64) 3 W w.heap.size (fun _ => True) (.slice A4 AT.length c4) AT ∧ Kd.R k53 53 W w.heap.size (fun _ => True) vo out ∧ Below w.heap.size w W ∧ w.heap.size < b6 ∧ b6 + 1 < bo
theorem impl_Break.MS.drewN {a0 : ByteArray} {w W : World} {b6 bo : Nat} {A1 A4 : Option Addr} {c1 c4 : Nat} {R AT : List Int} {vo : Value} {out : List S53} (h : impl_Break.MS a0 w b6 bo A1 A4 c1 c4 R AT vo out W) (m : Nat) : impl_Break.MS a0 w b6 bo A1 A4 c1 c4 R AT vo out (W.drewN m) := by
  obtain ⟨h1, h2, h3, h4, h5, h6, h7, h8, h9, h10⟩ := h
  exact ⟨h1, h2, h3, h4, Kd.R_drewN h5 m, Kd.R_drewN h6 m, Kd.R_drewN h7 m, pw_below_drewN h8 m, h9, h10⟩
theorem impl_Break.R_keep3 {W W1 : World} {base bo : Nat} {vo r : Value} {xs : List Int} {out : List S53} {ok : Nat → Prop} (hR : Kd.R (Kd.int .i64) 3 W base ok r xs) (hb : W.heap[bo]? = some (.cells #[vo] 45 (0, 0))) (ho : Kd.R k53 53 W base (fun _ => True) vo out) (hk : KeepBut W W1 bo vo.ownBlock) : Kd.R (Kd.int .i64) 3 W1 base ok r xs := by
  refine Kd.R_mono (Kd.R_move (Kd.R_bound hR) (fun k hj => ?_)) (fun _ hk => hk.1)
  obtain ⟨_, _, hlt, q, hq, cells, hc⟩ := hj
  have hq3 : q = 3 := by
    rcases List.mem_cons.1 hq with rfl | hq
    · rfl
    · cases hq
  subst hq3
  refine hk.2 k hlt ?_ ?_
  · rintro rfl
    rw [hb] at hc
    injection hc with hc
    injection hc with _ hc
    cases hc
  · intro e
    obtain ⟨cells', hc'⟩ := Kd.R_typed ho k e.symm
    rw [hc] at hc'
    injection hc' with hc'
    injection hc' with _ hc'
    cases hc'
theorem impl_Break.MS.put {a0 : ByteArray} {w W W1 : World} {b6 bo : Nat} {A1 A4 : Option Addr} {c1 c4 : Nat} {R AT : List Int} {vo v' : Value} {out out' : List S53} (h : impl_Break.MS a0 w b6 bo A1 A4 c1 c4 R AT vo out W)
    (g1 : W1.heap[bo]? = some (.cells #[v'] 45 (0, 0))) (g2 : Kd.R k53 53 W1 w.heap.size (fun _ => True) v' out') (g3 : KeepBut W W1 bo vo.ownBlock) (g4 : Below w.heap.size W W1) : impl_Break.MS a0 w b6 bo A1 A4 c1 c4 R AT v' out' W1 := by
  obtain ⟨h1, h2, h3, h4, h5, h6, h7, h8, h9, h10⟩ := h
  exact ⟨g3.blk h1 (by omega) (Kd.R_ne h7 h1 (by decide)), g3.blk h2 (by omega) (Kd.R_ne h7 h2 (by decide)), g3.blk h3 (by omega) (Kd.R_ne h7 h3 (by decide)), g1, impl_Break.R_keep3 h5 h4 h7 g3, impl_Break.R_keep3 h6 h4 h7 g3, g2, h8.trans g4, h9, h10⟩
theorem impl_Break.PH.start {a0 : ByteArray} {w W : World} {b6 it pos : Nat} {A1 A4 : Option Addr} {c1 c4 : Nat} {l1 l2 : List Int} (h : impl_Break.PH a0 w b6 it pos (.slice A1 l1.length c1) (.slice A4 l2.length c4) l1 l2 W) :
    impl_Break.MS a0 w b6 W.heap.size A1 A4 c1 c4 l1 l2 (.slice none 0 0) [] (W.alloc (.cells #[.slice none 0 0] 45)) := by
  obtain ⟨h1, h2, h3, h4, h5, h6, h7, h8, h9⟩ := h
  exact ⟨blk_alloc h2 _, blk_alloc h3 _, blk_alloc h4 _, heap_alloc_new W _, Kd.R_alloc (Kd.R_mono h5 (fun _ _ => trivial)) _, Kd.R_alloc (Kd.R_mono h6 (fun _ _ => trivial)) _, Kd.R_nil _ _ _ _ _, below_alloc h7 _, h8, by have := lt_of_block h4; omega⟩
def impl_Break.cond (R : List Int) (j : Int) : Bool := impl_Break.sol R j || (decide (j < (R.length : Int)) && impl_Break.cls (rd R j) == 3 && impl_Break.sol R (j - 1) && impl_Break.sol R (j + 1))
def impl_Break.runEnd (R : List Int) : Nat → Nat → Nat
  | 0, j => j
  | n + 1, j => if impl_Break.cond R (j : Int) then impl_Break.runEnd R n (j + 1) else j
def impl_Break.toks (s : ByteArray) (R AT : List Int) : Nat → Nat → List S53 → List S53
  | 0, _, out => out
  | n + 1, i, out => if i < R.length then (if impl_Break.cls (rd R (i : Int)) = 4 then impl_Break.toks s R AT n (i + 1) (out ++ [impl_Break.tok s out.length (rd AT (i : Int)) (rd AT ((i + 1 : Nat) : Int))]) else if impl_Break.sol R (i : Int) = true then impl_Break.toks s R AT n (impl_Break.runEnd R R.length (i + 1)) (out ++ [impl_Break.tok s out.length (rd AT (i : Int)) (rd AT ((impl_Break.runEnd R R.length (i + 1) : Nat) : Int))]) else impl_Break.toks s R AT n (i + 1) out) else out
def impl_Break.tl (s : ByteArray) : List S53 := impl_Break.toks s (impl_Decode.runes s s.size 0) (impl_Break.poss s s.size 0 ++ [(s.size : Int)]) (impl_Decode.runes s s.size 0).length 0 []
theorem impl_Decode_runes_len (s : ByteArray) (fuel pos : Nat) : (impl_Decode.runes s fuel pos).length ≤ fuel := by
  have := impl_Break.poss_len s fuel pos; omega
theorem impl_Break.w_up (j : Nat) (h : j ≤ 65536) : wrap64 ((j : Int) + 1) = ((j + 1 : Nat) : Int) := by unfold wrap64; omega
theorem impl_Break.w_dn (j : Nat) (h : j ≤ 65536) : wrap64 ((j : Int) - 1) = (j : Int) - 1 := by unfold wrap64; omega
theorem impl_Break.decode_le (s : ByteArray) (pos : Nat) (h : pos < s.size) : pos + (Utf8.decode s pos).2 ≤ s.size := by
  rw [Lib.decode_at]
  unfold Lib.decodeN
  generalize hm : s.size - pos = m
  repeat' split
  all_goals simp_all
  all_goals omega
theorem impl_Break.poss_sorted (s : ByteArray) (fuel : Nat) : ∀ pos, pos ≤ s.size → (∀ x ∈ impl_Break.poss s fuel pos ++ [(s.size : Int)], (pos : Int) ≤ x ∧ x ≤ (s.size : Int)) ∧ (impl_Break.poss s fuel pos ++ [(s.size : Int)]).Pairwise (· ≤ ·) := by
  induction fuel with
  | zero =>
    intro pos hp
    rw [impl_Break.poss, List.nil_append]
    exact ⟨fun x hx => by rw [List.mem_singleton.1 hx]; omega, List.pairwise_singleton _ _⟩
  | succ n ih =>
    intro pos hp
    rw [impl_Break.poss]
    by_cases h : pos < s.size
    · have hw := Lib.width_pos s pos
      obtain ⟨g1, g2⟩ := ih (pos + (Utf8.decode s pos).2) (impl_Break.decode_le s pos h)
      rw [if_pos h, List.cons_append]
      refine ⟨fun x hx => ?_, List.pairwise_cons.2 ⟨fun x hx => ?_, g2⟩⟩
      · rcases List.mem_cons.1 hx with rfl | hx
        · omega
        · have := g1 x hx; omega
      · have := g1 x hx; omega
    · rw [if_neg h, List.nil_append]
      exact ⟨fun x hx => by rw [List.mem_singleton.1 hx]; omega, List.pairwise_singleton _ _⟩
theorem impl_Break.at_ok (s : ByteArray) (AT : List Int) (h : impl_Break.poss s s.size 0 ++ [(s.size : Int)] = AT) : AT.length = (impl_Decode.runes s s.size 0).length + 1 ∧ ∀ i j : Nat, i ≤ j → j < AT.length → 0 ≤ rd AT (i : Int) ∧ rd AT (i : Int) ≤ rd AT (j : Int) ∧ rd AT (j : Int) ≤ (s.size : Int) := by
  obtain ⟨g1, g2⟩ := impl_Break.poss_sorted s s.size 0 (Nat.zero_le _)
  rw [h] at g1 g2
  refine ⟨by rw [← h, List.length_append, (impl_Break.poss_len s s.size 0).2]; rfl, fun i j hij hj => ?_⟩
  have e : ∀ m : Nat, (hm : m < AT.length) → rd AT (m : Int) = AT[m] := by
    intro m hm
    unfold rd
    rw [Int.toNat_natCast, List.getD_eq_getElem?_getD, List.getElem?_eq_getElem hm]; rfl
  have a1 := g1 _ (List.getElem_mem (show i < AT.length by omega))
  have a2 := g1 _ (List.getElem_mem hj)
  rw [e i (by omega), e j hj]
  refine ⟨by omega, ?_, by omega⟩
  by_cases c : i = j
  · subst c; exact Int.le_refl _
  · exact (List.pairwise_iff_getElem.1 g2) i j (by omega) hj (by omega)
theorem impl_Break.runEnd_ok (R : List Int) (n : Nat) : ∀ j, j ≤ R.length → j ≤ impl_Break.runEnd R n j ∧ impl_Break.runEnd R n j ≤ R.length := by
  induction n with
  | zero => intro j hj; exact ⟨Nat.le_refl _, hj⟩
  | succ n ih =>
    intro j hj
    rw [impl_Break.runEnd]
    by_cases c : impl_Break.cond R (j : Int) = true
    · rw [if_pos c]
      have hlt : j < R.length := by
        unfold impl_Break.cond impl_Break.sol at c
        by_cases h : j < R.length
        · exact h
        · have e : decide ((j : Int) < (R.length : Int)) = false := decide_eq_false (by omega)
          rw [e] at c
          simp at c
      have := ih (j + 1) (by omega)
      omega
    · rw [if_neg c]; exact ⟨Nat.le_refl _, hj⟩
set_option maxRecDepth 1000000 in
set_option maxHeartbeats 4000000 in
theorem impl_Break.main (a0 : ByteArray) (r1 : List S53) (r2 : Int) (w : World) (hT : TabW w) (hsz : a0.size ≤ 65536) (hd : impl_Decode.f a0 = some (impl_Decode.runes a0 a0.size 0, 0)) (hr : (if 8192 < (impl_Break.tl a0).length then (([] : List S53), (11 : Int)) else (impl_Break.tl a0, 0)) = (r1, r2)) :
    Calls Tryd.prog 33 #[.string a0] w fun e w' => ∃ v0_ : Value, e = .returned (.tuple #[v0_, .int .i64 r2]) ∧ Kd.R k53 53 w' w.heap.size (fun _ => True) v0_ r1 ∧ Below w.heap.size w w' := by
  have HRR := Lib.hid hr
  clear hr
  have hcd : ∀ W, Below w.heap.size w W → _ := fun W hb => impl_Decode.calls a0 (impl_Decode.runes a0 a0.size 0) 0 W (TabW.below hT hb) hd
  clear hd
  go_enter Tryd.func33, Tryd.ntmps33
  go_upto_region 5 with (go_at_call 16; refine (hcd _ (below_alloc (Below.refl _ _) _)).mono ?_; rintro e w1 ⟨v0, rfl, _, hb1⟩; have HK1 : Hid (w1.heap[w.heap.size]? = some (.cells #[.string a0] 9 (0, 0))) := Lib.hid ((hb1.block w.heap.size (by simp)).trans (heap_alloc_new w _)); have HB1 := Lib.hid hb1; clear hb1 hcd)
  obtain ⟨w2, hw2⟩ : ∃ w2, w2 = (w1.alloc (Obj.cells #[Value.slice none 0 0] 22)).alloc (Obj.cells #[Value.slice none 0 0] 22) := ⟨_, rfl⟩
  rw [← hw2]
  have HS1 : Hid (w.heap.size < w1.heap.size) := Lib.hid (by have := HB1.out.size; simp at this; omega)
  have HT2 : Hid (w2.heap[w.heap.size]? = some (.cells #[.string a0] 9 (0, 0))) := Lib.hid (by rw [hw2]; exact blk_alloc (blk_alloc HK1.out _) _)
  have HR2 : Hid (w2.heap[w1.heap.size]? = some (.cells #[.slice none 0 0] 22 (0, 0))) := Lib.hid (by rw [hw2]; exact blk_alloc (heap_alloc_new w1 _) _)
  have HA2 : Hid (w2.heap[w1.heap.size + 1]? = some (.cells #[.slice none 0 0] 22 (0, 0))) := Lib.hid (by
    rw [hw2]
    have h_ := heap_alloc_new (w1.alloc (Obj.cells #[Value.slice none 0 0] 22)) (Obj.cells #[Value.slice none 0 0] 22)
    rwa [show (w1.alloc (Obj.cells #[Value.slice none 0 0] 22)).heap.size = w1.heap.size + 1 by simp] at h_)
  have HB2 : Hid (Below w.heap.size w w2) := Lib.hid (by
    rw [hw2]
    exact below_alloc (below_alloc ((below_alloc (Below.refl _ w) (Obj.cells #[Value.string a0] 9)).trans (HB1.out.mono (by simp))) _) _)
  have HN2 : Hid (w2.heap.size = w1.heap.size + 2) := Lib.hid (by rw [hw2]; simp)
  clear hw2 HK1 HB1
  generalize w1.heap.size = b6 at *
  have hx1 := (blk_cell HT2.out 0).trans rfl
  go_wp2
  go_loopw [] (fun wr => ∃ (pos fuel : Nat) (l1 l2 : List Int) (v1 v2 : Value), impl_Break.PH a0 w b6 w2.heap.size pos v1 v2 l1 l2 wr ∧ Hid (l1 ++ impl_Decode.runes a0 fuel pos = impl_Decode.runes a0 a0.size 0) ∧ Hid (l2 ++ impl_Break.poss a0 fuel pos = impl_Break.poss a0 a0.size 0) ∧ a0.size ≤ pos + fuel ∧ l1.length ≤ pos ∧ l2.length ≤ pos) (fun wr => a0.size - wr.iterPos w2.heap.size)
  case atStart =>
    have hN := HN2.out
    refine ⟨0, a0.size, [], [], .slice none 0 0, .slice none 0 0, ⟨World.iter_heap w2 a0 0, ?_, ?_, ?_, ?_, ?_, ?_, HS1.out, by omega⟩, rfl, rfl, by omega, by simp, by simp⟩
    · exact blk_alloc HT2.out _
    · exact blk_alloc HR2.out _
    · exact blk_alloc HA2.out _
    · exact Kd.R_nil _ _ _ _ _
    · exact Kd.R_nil _ _ _ _ _
    · exact below_alloc HB2.out _
  case round =>
    obtain ⟨pos, fuel, l1, l2, v1, v2, hph, HS, HP, hb, hl1, hl2⟩ := hrel
    have hit := hph.1
    have hpos0 := impl_Decode.pos_of hit
    by_cases hp : pos < a0.size
    · have hnx : ∀ ty, (Instr.next (.pointer (some ⟨w2.heap.size, 0, none⟩)) true ty).run Tryd.prog wr = _ := fun ty => Lib.run_next_any_at wr w2.heap.size a0 pos ty hit hp
      have hwd := Lib.width_pos a0 pos
      have hrl := Lib.rune_le a0 pos
      obtain ⟨fuel, rfl⟩ : ∃ f', fuel = f' + 1 := ⟨fuel - 1, by omega⟩
      have hph2 := hph.step (pos + (Utf8.decode a0 pos).2)
      have HS2 : Hid (l1 ++ [((Utf8.decode a0 pos).1 : Int)] ++ impl_Decode.runes a0 fuel (pos + (Utf8.decode a0 pos).2) = impl_Decode.runes a0 a0.size 0) := by
        show _ = _
        rw [← HS.out]; simp [impl_Decode.runes, hp]
      have HP2 : Hid (l2 ++ [(pos : Int)] ++ impl_Break.poss a0 fuel (pos + (Utf8.decode a0 pos).2) = impl_Break.poss a0 a0.size 0) := by
        show _ = _
        rw [← HP.out]; simp [impl_Break.poss, hp]
      obtain ⟨W1, hW1⟩ : ∃ W1, W1 = wr.iterAt w2.heap.size a0 (pos + (Utf8.decode a0 pos).2) := ⟨_, rfl⟩
      rw [← hW1] at hnx hph2
      obtain ⟨A1, c1, rfl⟩ := Kd.R_slice hph2.2.2.2.2.1
      obtain ⟨A2, c2, rfl⟩ := Kd.R_slice hph2.2.2.2.2.2.1
      have HPH := Lib.hid hph2
      have hx6 := (blk_cell hph2.2.2.1 0).trans rfl
      clear hW1 hph hph2 hit HS HP
      go_upto_region 9 with ((with_reducible refine gate_builtin (b := .append) (xs := #[.tmp 29, .tmp 32]) rfl ?_); (try (refine gate_guard (by rfl) ?_; dsimp only)); at_builtin; refine Kd.R_append (Kd.int .i64) (w0 := w) w.heap.size rfl (.tmp 29) (.tmp 32) 22 3 (.int .i64 0) 8 rfl Tryd.underlying22 impl_Decode.info3 rfl (by decide) (by omega) (.slice A1 l1.length c1) l1 ((Utf8.decode a0 pos).1 : Int) [.int .i64 ((Utf8.decode a0 pos).1 : Int)] (fun k => True ∧ some k ≠ (Value.slice A2 l2.length c2).ownBlock) (fun _ => False) rfl rfl rfl (fun _ hk => hk.elim) (HPH.out.fresh1) HPH.out.2.2.2.2.1 HPH.out.2.2.2.2.2.2.1 HPH.out.2.2.2.2.2.2.1.size (by omega) ?_; intro v1' w3 ho hb' hg hat; obtain ⟨A3, c3, rfl⟩ := Kd.R_slice ho; rw [show (l1 ++ [((Utf8.decode a0 pos).1 : Int)]).length = l1.length + 1 by simp] at ho hat; have HP3 := Lib.hid (HPH.out.app1 ho hb' hg hat); have hb3 := blk_grown HPH.out.2.2.1 hg (Kd.R_ne HPH.out.2.2.2.2.1 HPH.out.2.2.1 (by decide)); have hx3 := (blk_cell hb3 0).trans rfl; have hfz3 := blk_frozen hb3 0; clear ho hb' hg hat hb3 HPH)
      obtain ⟨w4, hw4⟩ : ∃ w4, w4 = w3.setCell { block := b6, off := 0 } (Value.slice A3 (l1.length + 1) c3) := ⟨_, rfl⟩
      rw [← hw4] at HP3 ⊢
      clear hx3 hfz3 hw4 hx6
      have hx7 := (blk_cell HP3.out.2.2.2.1 0).trans rfl
      go_wp2_with ((with_reducible refine gate_builtin (b := .append) (xs := #[.tmp 34, .tmp 36]) rfl ?_); (try (refine gate_guard (by rfl) ?_; dsimp only)); at_builtin; refine Kd.R_append (Kd.int .i64) (w0 := w) w.heap.size rfl (.tmp 34) (.tmp 36) 22 3 (.int .i64 0) 8 rfl Tryd.underlying22 impl_Decode.info3 rfl (by decide) (by omega) (.slice A2 l2.length c2) l2 (pos : Int) [.int .i64 (pos : Int)] (fun k => True ∧ some k ≠ (Value.slice A3 (l1.length + 1) c3).ownBlock) (fun _ => False) rfl rfl rfl (fun _ hk => hk.elim) (HP3.out.fresh2) HP3.out.2.2.2.2.2.1 HP3.out.2.2.2.2.2.2.1 HP3.out.2.2.2.2.2.2.1.size (by omega) ?_; intro v2' w5 ho hb' hg hat; obtain ⟨A4, c4, rfl⟩ := Kd.R_slice ho; rw [show (l2 ++ [(pos : Int)]).length = l2.length + 1 by simp] at ho hat; have HP5 := Lib.hid (HP3.out.app2 ho hb' hg hat); have hb5 := blk_grown HP3.out.2.2.2.1 hg (Kd.R_ne HP3.out.2.2.2.2.2.1 HP3.out.2.2.2.1 (by decide)); have hx5 := (blk_cell hb5 0).trans rfl; have hfz5 := blk_frozen hb5 0; clear ho hb' hg hat hb5 HP3)
      go_roundw
      case rel => exact ⟨_, fuel, _, _, _, _, HP5.out, HS2, HP2, by omega, by simp; omega, by simp; omega⟩
      case measure => rw [impl_Decode.pos_of HP5.out.1, hpos0]; omega
    · have hnx : ∀ ty, (Instr.next (.pointer (some ⟨w2.heap.size, 0, none⟩)) true ty).run Tryd.prog wr = _ := fun ty => Lib.run_next_end_at wr w2.heap.size a0 pos ty hit hp
      have e1 : l1 = impl_Decode.runes a0 a0.size 0 := by rw [← HS.out, impl_Decode.runes_end a0 fuel pos hp, List.append_nil]
      have e2 : l2 = impl_Break.poss a0 a0.size 0 := by rw [← HP.out, impl_Break.poss_end a0 fuel pos hp, List.append_nil]
      obtain ⟨A1, c1, rfl⟩ := Kd.R_slice hph.2.2.2.2.1
      obtain ⟨A2, c2, rfl⟩ := Kd.R_slice hph.2.2.2.2.2.1
      have HPH := Lib.hid hph
      have HL1 := Lib.hid hl1
      have HL2 := Lib.hid hl2
      have HPS := Lib.hid hp
      have HB0 : Hid (l2.length ≤ 65536) := Lib.hid (by rw [e2]; have := (impl_Break.poss_len a0 a0.size 0).1; omega)
      have hx7 := (blk_cell hph.2.2.2.1 0).trans rfl
      have hx1' := (blk_cell hph.2.1 0).trans rfl
      have HE1 := Lib.hid e1
      have HE2 := Lib.hid e2
      clear hph hit HS HP hl1 hl2 e1 e2 hp hpos0 hx1
      go_upto_region 11 with ((with_reducible refine gate_builtin (b := .append) (xs := #[.tmp 38, .tmp 41]) rfl ?_); (try (refine gate_guard (by rfl) ?_; dsimp only)); at_builtin; refine Kd.R_append (Kd.int .i64) (w0 := w) w.heap.size rfl (.tmp 38) (.tmp 41) 22 3 (.int .i64 0) 8 rfl Tryd.underlying22 impl_Decode.info3 rfl (by decide) (by omega) (.slice A2 l2.length c2) l2 (a0.size : Int) [.int .i64 (a0.size : Int)] (fun k => True ∧ some k ≠ (Value.slice A1 l1.length c1).ownBlock) (fun _ => False) rfl rfl rfl (fun _ hk => hk.elim) (HPH.out.fresh2) HPH.out.2.2.2.2.2.1 HPH.out.2.2.2.2.2.2.1 HPH.out.2.2.2.2.2.2.1.size (by have := HB0.out; omega) ?_; intro v2' w5 ho hb' hg hat; obtain ⟨A4, c4, rfl⟩ := Kd.R_slice ho; rw [show (l2 ++ [(a0.size : Int)]).length = l2.length + 1 by simp] at ho hat; have HP5 := Lib.hid (HPH.out.app2 ho hb' hg hat); have hb5 := blk_grown HPH.out.2.2.2.1 hg (Kd.R_ne HPH.out.2.2.2.2.2.1 HPH.out.2.2.2.1 (by decide)); have hx5 := (blk_cell hb5 0).trans rfl; have hfz5 := blk_frozen hb5 0; clear ho hb' hg hat hb5 HPH)
      obtain ⟨w6, hw6⟩ : ∃ w6, w6 = w5.setCell { block := b6 + 1, off := 0 } (Value.slice A4 (l2.length + 1) c4) := ⟨_, rfl⟩
      rw [← hw6] at HP5 ⊢
      have HM := Lib.hid (impl_Break.PH.start (l2 := l2 ++ [(a0.size : Int)]) (A4 := A4) (c4 := c4) (l1 := l1) (A1 := A1) (c1 := c1) (by rw [show (l2 ++ [(a0.size : Int)]).length = l2.length + 1 by simp]; exact HP5.out))
      clear hx5 hfz5 hw6 hx7 hx1' HP5
      have hat_ := impl_Break.at_ok a0 (l2 ++ [(a0.size : Int)]) (by rw [HE2.out])
      rw [← HE1.out] at hat_
      have HAT := Lib.hid hat_
      clear hat_
      generalize hAT : l2 ++ [(a0.size : Int)] = AT at HM HAT
      go_wp2
      have hBO : Hid (b6 + 1 < w6.heap.size) := Lib.hid HM.out.2.2.2.2.2.2.2.2.2
      generalize w6.heap.size = bo at *
      have HR : Hid (l1 = impl_Decode.runes a0 a0.size 0) := HE1
      go_loopw [13] (fun v wl => ∃ (i fuel : Nat) (vo : Value) (out : List S53), v = .int .i64 (i : Int) ∧ impl_Break.MS a0 w b6 bo A1 A4 c1 c4 l1 AT vo out wl ∧ Hid (impl_Break.toks a0 l1 AT fuel i out = impl_Break.toks a0 l1 AT l1.length 0 []) ∧ l1.length ≤ i + fuel ∧ out.length ≤ i ∧ i ≤ l1.length) (fun v _ => match v with | .int _ x => l1.length - x.toNat | _ => 0)
      case atStart => exact ⟨0, l1.length, _, [], rfl, HM.out, rfl, by omega, by simp, by omega⟩
      case round =>
        obtain ⟨i, fuel, vo, out, rfl, hms, HTK, hf, ho1, hi1⟩ := hrel
        clear HM
        have hx6 := (blk_cell hms.2.1 0).trans rfl
        have HMS := Lib.hid hms
        by_cases hc : i < l1.length
        · have d1 : decide ((i : Int) < (l1.length : Int)) = true := decide_eq_true (by omega)
          obtain ⟨fuel, rfl⟩ : ∃ f', fuel = f' + 1 := ⟨fuel - 1, by omega⟩
          have p1 := eq_true (show (0 : Int) ≤ (i : Int) by omega)
          have p2 := eq_true (show (i : Int) < (l1.length : Int) by omega)
          obtain ⟨_, _, eA, hcc, hC⟩ := Kd.R_reads hms.2.2.2.2.1
          injection eA with e1_ _ e3_
          subst e1_ e3_
          obtain ⟨ad, rfl, hcell⟩ := Kd.at_int hC (i : Int) (by omega) (by omega)
          rw [Int.toNat_natCast] at hcell
          have hcl := fun W' => impl_Class.calls 2 (rd l1 (i : Int)) _ W' (impl_Break.cls_eq (rd l1 (i : Int)))
          have HC := Lib.hid hc
          clear hms hc hC
          by_cases k4 : impl_Break.cls (rd l1 (i : Int)) = 4
          · rw [k4] at hcl
            go_upto_region 18 with (go_at_call 73; refine (hcl _).mono ?_; rintro e w' ⟨rfl, ⟨nd, rfl⟩⟩)
            have HM2 := HMS.out.drewN nd
            obtain ⟨hb1, hb2, hb3⟩ := HAT.out.2 i (i + 1) (by omega) (by have := HAT.out.1; have := HC.out; omega)
            have hL := HAT.out.1
            have hC' := HC.out
            have hL2 := HL1.out
            have hsz2 := (impl_Decode_runes_len a0 a0.size 0)
            rw [← HE1.out] at hsz2
            have hput := impl_Break.putc (i : Int) ((i : Int) + 1) bo w.heap.size (b6 + 1) vo out a0 A4 c4 AT w.heap.size (wr.drewN nd) HM2.2.2.2.1 HM2.2.2.2.2.2.2.1 HM2.1 HM2.2.2.1 HM2.2.2.2.2.2.1 (by omega) (by omega) (by omega) (by omega) hb1 hb2 hb3 (by omega) HM2.2.2.2.2.2.2.2.1.size (by have := HM2.2.2.2.2.2.2.2.2; omega)
            have HTK2 : Hid (impl_Break.toks a0 l1 AT fuel (i + 1) (out ++ [impl_Break.tok a0 out.length (rd AT (i : Int)) (rd AT ((i : Int) + 1))]) = impl_Break.toks a0 l1 AT l1.length 0 []) := by
              show _ = _
              rw [← HTK.out]
              simp only [impl_Break.toks]
              rw [if_pos HC.out, if_pos k4]; rfl
            have hw1 : wrap64 ((i : Int) + 1) = (i : Int) + 1 := by unfold wrap64; omega
            have hw2 : IntKind.i64.wrap ((i : Int) + 1) = (i : Int) + 1 := (i64_w _).trans hw1
            clear hb1 hb2 hb3 hL hC' hL2 hsz2 hcl hcell hx6 d1 p1 p2
            go_wp2_with (go_at_call 74; refine hput.mono ?_; rintro e w8 ⟨rfl, v8, g1, g2, g3, g4, _⟩; have HM8 := Lib.hid (HM2.put g1 g2 g3 g4); clear g1 g2 g3 g4 hput HM2)
            go_roundw
            case rel => exact ⟨i + 1, fuel, v8, _, rfl, HM8.out, HTK2, by omega, by simp; omega, by have := HC.out; omega⟩
            case measure => have := HC.out; simp only [Int.toNat_natCast]; omega
          · have hk4 : (impl_Break.cls (rd l1 (i : Int)) == 4) = false := beq_eq_false_iff_ne.2 k4
            generalize hcv : impl_Break.cls (rd l1 (i : Int)) = cv at hcl hk4
            have hsol : ∀ W, impl_Break.MS a0 w b6 bo (some ad) A4 c1 c4 l1 AT vo out W → ∀ x, Calls Tryd.prog 72 #[.int .i64 x, .pointer (some ⟨b6, 0, none⟩)] W fun e w' => e = .returned (.bool (impl_Break.sol l1 x)) ∧ Drawn0 W w' := fun W hW x =>
              impl_Break.solid x b6 (some ad) c1 l1 W ((blk_cell hW.2.1 0).trans rfl) (by obtain ⟨_, _, e_, _, hC_⟩ := Kd.R_reads hW.2.2.2.2.1; injection e_ with e1_ _ e3_; subst e1_ e3_; exact hC_) hcc
            have HSL := Lib.hid hsol
            by_cases hs : impl_Break.sol l1 (i : Int) = true
            · have hcs : ∀ W, impl_Break.MS a0 w b6 bo (some ad) A4 c1 c4 l1 AT vo out W → Calls Tryd.prog 72 #[.int .i64 (i : Int), .pointer (some ⟨b6, 0, none⟩)] W fun e w' => e = .returned (.bool true) ∧ Drawn0 W w' := fun W hW => by
                have h_ := HSL.out W hW (i : Int); rw [hs] at h_; exact h_
              have hw1 : wrap64 ((i : Int) + 1) = ((i + 1 : Nat) : Int) := by have := HC.out; have := HL1.out; have := (impl_Decode_runes_len a0 a0.size 0); rw [← HE1.out] at this; unfold wrap64; omega
              have hw2 : IntKind.i64.wrap ((i : Int) + 1) = ((i + 1 : Nat) : Int) := (i64_w _).trans hw1
              clear hsol
              go_upto_region 21 with (first | (go_at_call 73; refine (hcl _).mono ?_; rintro e w' ⟨rfl, ⟨nd, rfl⟩⟩) | (go_at_call 72; refine (hcs _ (HMS.out.drewN _)).mono ?_; rintro e w' ⟨rfl, ⟨nd2, rfl⟩⟩))
              clear hcs hcl hcell hx6 hw1
              go_wp2
              have HMS2 := Lib.hid (HMS.out.drewN (nd + nd2))
              generalize wr.drewN (nd + nd2) = wx at HMS2 ⊢
              have HK4 := Lib.hid k4
              have HHS := Lib.hid hs
              have HCV := Lib.hid hcv
              clear hw2 hk4 d1 p1 p2 k4 hs hcv
              go_loopw [14] (fun v wj => ∃ (j n m : Nat), v = .int .i64 (j : Int) ∧ wj = wx.drewN m ∧ Hid (impl_Break.runEnd l1 n j = impl_Break.runEnd l1 l1.length (i + 1)) ∧ l1.length ≤ j + n ∧ j ≤ l1.length ∧ i + 1 ≤ j) (fun v _ => match v with | .int _ x => l1.length - x.toNat | _ => 0)
              case atStart => exact ⟨i + 1, l1.length, 0, rfl, rfl, rfl, by omega, by have := HC.out; omega, by omega⟩
              case round =>
                obtain ⟨j, n, m, rfl, rfl, hre, hjn, hjl, hij⟩ := hrel
                have hms2 := HMS2.out
                have hx6 := (blk_cell hms2.2.1 0).trans rfl
                have hlen : l1.length ≤ 65536 := by have := (impl_Decode_runes_len a0 a0.size 0); rw [← HE1.out] at this; omega
                have hcall : ∀ W, impl_Break.MS a0 w b6 bo (some ad) A4 c1 c4 l1 AT vo out W → ∀ x b, impl_Break.sol l1 x = b → Calls Tryd.prog 72 #[.int .i64 x, .pointer (some ⟨b6, 0, none⟩)] W fun e w' => e = .returned (.bool b) ∧ Drawn0 W w' := fun W hW x b e_ => by have h_ := HSL.out W hW x; rw [e_] at h_; exact h_
                have hput : ∀ q, _ := fun q => impl_Break.putc (i : Int) (j : Int) bo w.heap.size (b6 + 1) vo out a0 A4 c4 AT w.heap.size (wx.drewN q) (HMS2.out.drewN q).2.2.2.1 (HMS2.out.drewN q).2.2.2.2.2.2.1 (HMS2.out.drewN q).1 (HMS2.out.drewN q).2.2.1 (HMS2.out.drewN q).2.2.2.2.2.1 (by omega) (by have := HAT.out.1; omega) (by omega) (by have := HAT.out.1; omega) (HAT.out.2 i j (by omega) (by have := HAT.out.1; omega)).1 (HAT.out.2 i j (by omega) (by have := HAT.out.1; omega)).2.1 (HAT.out.2 i j (by omega) (by have := HAT.out.1; omega)).2.2 (by omega) (HMS2.out.drewN q).2.2.2.2.2.2.2.1.size (by have := (HMS2.out.drewN q).2.2.2.2.2.2.2.2; omega)
                have hj6 : j ≤ 65536 := by omega
                have HRX : impl_Break.cond l1 (j : Int) = false → Hid (impl_Break.toks a0 l1 AT fuel j (out ++ [impl_Break.tok a0 out.length (rd AT (i : Int)) (rd AT (j : Int))]) = impl_Break.toks a0 l1 AT l1.length 0 []) := fun hcd => by
                  have ej : j = impl_Break.runEnd l1 l1.length (i + 1) := by
                    rw [← hre]
                    cases n with
                    | zero => rfl
                    | succ n => rw [impl_Break.runEnd, if_neg (by rw [hcd]; exact Bool.false_ne_true)]
                  show _ = _
                  rw [← HTK.out]
                  simp only [impl_Break.toks]
                  rw [if_pos HC.out, if_neg HK4.out, if_pos HHS.out, ← ej]
                by_cases hjc : j < l1.length
                · obtain ⟨n, rfl⟩ : ∃ n', n = n' + 1 := ⟨n - 1, by omega⟩
                  have HJL := hjc
                  have HRC : impl_Break.cond l1 (j : Int) = true → Hid (impl_Break.runEnd l1 n (j + 1) = impl_Break.runEnd l1 l1.length (i + 1)) := fun hcd => by
                    show _ = _
                    rw [← hre, impl_Break.runEnd, if_pos hcd]
                  have d2 : decide ((j : Int) < (l1.length : Int)) = true := decide_eq_true (by omega)
                  have p3 := eq_true (show (0 : Int) ≤ (j : Int) by omega)
                  have p4 := eq_true (show (j : Int) < (l1.length : Int) by omega)
                  obtain ⟨_, _, eA, _, hCj⟩ := Kd.R_reads hms2.2.2.2.2.1
                  injection eA with e1_ _ e3_
                  subst e3_
                  subst e1_
                  obtain ⟨ad2, ea2, hcellj⟩ := Kd.at_int hCj (j : Int) (by omega) (by omega)
                  cases ea2
                  rw [Int.toNat_natCast] at hcellj
                  have hclj := fun W' => impl_Class.calls 2 (rd l1 (j : Int)) _ W' (impl_Break.cls_eq (rd l1 (j : Int)))
                  clear hCj hms2
                  by_cases g0 : impl_Break.sol l1 (j : Int) = true
                  · have hcd : impl_Break.cond l1 (j : Int) = true := by unfold impl_Break.cond; rw [g0]; rfl
                    have hw3 := impl_Break.w_up j hj6
                    have hw4 := (i64_w _).trans hw3
                    have hw5 := impl_Break.w_dn j hj6
                    have hw6 := (i64_w _).trans hw5
                    go_wp2_with (first | (go_at_call 72; with_reducible refine (hcall _ (HMS2.out.drewN _) (j : Int) true g0).mono ?_; rintro e w' ⟨rfl, ⟨_, rfl⟩⟩))
                    clear hcall hput hw3 hw4 hw5 hw6
                    go_roundw
                    case rel => exact ⟨j + 1, n, _, rfl, rfl, HRC hcd, by omega, by have := HJL; omega, by omega⟩
                    case measure => have := HJL; simp only [Int.toNat_natCast]; omega
                  · have g0' : impl_Break.sol l1 (j : Int) = false := Bool.eq_false_iff.2 g0
                    generalize hcj : impl_Break.cls (rd l1 (j : Int)) = cj at hclj
                    by_cases g1 : cj = 3
                    · subst g1
                      by_cases g2 : impl_Break.sol l1 ((j : Int) - 1) = true
                      · by_cases g3 : impl_Break.sol l1 ((j + 1 : Nat) : Int) = true
                        · have hcd : impl_Break.cond l1 (j : Int) = true := by unfold impl_Break.cond; rw [g0', d2, hcj, g2, show (j : Int) + 1 = ((j + 1 : Nat) : Int) from rfl, g3]; rfl
                          have g3b : impl_Break.sol l1 ((j : Int) + 1) = true := g3
                          have hw3 := impl_Break.w_up j hj6
                          have hw4 := (i64_w _).trans hw3
                          have hw5 := impl_Break.w_dn j hj6
                          have hw6 := (i64_w _).trans hw5
                          go_wp2_with (first | (go_at_call 72; with_reducible refine (hcall _ (HMS2.out.drewN _) (j : Int) false g0').mono ?_; rintro e w' ⟨rfl, ⟨_, rfl⟩⟩) | (go_at_call 73; with_reducible refine (hclj _).mono ?_; rintro e w' ⟨rfl, ⟨_, rfl⟩⟩) | (go_at_call 72; with_reducible refine (hcall _ (HMS2.out.drewN _) ((j : Int) - 1) true g2).mono ?_; rintro e w' ⟨rfl, ⟨_, rfl⟩⟩) | (go_at_call 72; with_reducible refine (hcall _ (HMS2.out.drewN _) ((j + 1 : Nat) : Int) true g3).mono ?_; rintro e w' ⟨rfl, ⟨_, rfl⟩⟩) | (go_at_call 72; with_reducible refine (hcall _ (HMS2.out.drewN _) ((j : Int) + 1) true g3b).mono ?_; rintro e w' ⟨rfl, ⟨_, rfl⟩⟩))
                          clear hcall hput hw3 hw4 hw5 hw6
                          go_roundw
                          case rel => exact ⟨j + 1, n, _, rfl, rfl, HRC hcd, by omega, by have := HJL; omega, by omega⟩
                          case measure => have := HJL; simp only [Int.toNat_natCast]; omega
                        · have g3' := Bool.eq_false_iff.2 g3
                          have g3b : impl_Break.sol l1 ((j : Int) + 1) = false := g3'
                          have hcd : impl_Break.cond l1 (j : Int) = false := by unfold impl_Break.cond; rw [g0', show (j : Int) + 1 = ((j + 1 : Nat) : Int) from rfl, g3', Bool.and_false]; rfl
                          have hw3 := impl_Break.w_up j hj6
                          have hw4 := (i64_w _).trans hw3
                          have hw5 := impl_Break.w_dn j hj6
                          have hw6 := (i64_w _).trans hw5
                          go_wp2_with (first | (go_at_call 72; with_reducible refine (hcall _ (HMS2.out.drewN _) (j : Int) false g0').mono ?_; rintro e w' ⟨rfl, ⟨_, rfl⟩⟩) | (go_at_call 73; with_reducible refine (hclj _).mono ?_; rintro e w' ⟨rfl, ⟨_, rfl⟩⟩) | (go_at_call 72; with_reducible refine (hcall _ (HMS2.out.drewN _) ((j : Int) - 1) true g2).mono ?_; rintro e w' ⟨rfl, ⟨_, rfl⟩⟩) | (go_at_call 72; with_reducible refine (hcall _ (HMS2.out.drewN _) ((j + 1 : Nat) : Int) false g3').mono ?_; rintro e w' ⟨rfl, ⟨_, rfl⟩⟩) | (go_at_call 72; with_reducible refine (hcall _ (HMS2.out.drewN _) ((j : Int) + 1) false g3b).mono ?_; rintro e w' ⟨rfl, ⟨_, rfl⟩⟩) | (go_at_call 74; with_reducible refine (hput _).mono ?_; rintro e w8 ⟨rfl, v8, g1, g2, g3, g4, _⟩; have HM8 := Lib.hid ((HMS2.out.drewN _).put g1 g2 g3 g4); clear g1 g2 g3 g4))
                          clear hcall hput hw3 hw4 hw5 hw6
                          go_roundw
                          case rel => exact ⟨j, fuel, v8, _, rfl, HM8.out, HRX hcd, by omega, by simp; omega, hjl⟩
                          case measure => have := HC.out; simp only [Int.toNat_natCast]; omega
                      · have g2' := Bool.eq_false_iff.2 g2
                        have hcd : impl_Break.cond l1 (j : Int) = false := by unfold impl_Break.cond; rw [g0', g2', Bool.and_false, Bool.false_and]; rfl
                        have hw3 := impl_Break.w_up j hj6
                        have hw4 := (i64_w _).trans hw3
                        have hw5 := impl_Break.w_dn j hj6
                        have hw6 := (i64_w _).trans hw5
                        go_wp2_with (first | (go_at_call 72; with_reducible refine (hcall _ (HMS2.out.drewN _) (j : Int) false g0').mono ?_; rintro e w' ⟨rfl, ⟨_, rfl⟩⟩) | (go_at_call 73; with_reducible refine (hclj _).mono ?_; rintro e w' ⟨rfl, ⟨_, rfl⟩⟩) | (go_at_call 72; with_reducible refine (hcall _ (HMS2.out.drewN _) ((j : Int) - 1) false g2').mono ?_; rintro e w' ⟨rfl, ⟨_, rfl⟩⟩) | (go_at_call 74; with_reducible refine (hput _).mono ?_; rintro e w8 ⟨rfl, v8, g1, g2, g3, g4, _⟩; have HM8 := Lib.hid ((HMS2.out.drewN _).put g1 g2 g3 g4); clear g1 g2 g3 g4))
                        clear hcall hput hw3 hw4 hw5 hw6
                        go_roundw
                        case rel => exact ⟨j, fuel, v8, _, rfl, HM8.out, HRX hcd, by omega, by simp; omega, hjl⟩
                        case measure => have := HC.out; simp only [Int.toNat_natCast]; omega
                    · have g1' : (cj == 3) = false := beq_eq_false_iff_ne.2 g1
                      have hcd : impl_Break.cond l1 (j : Int) = false := by unfold impl_Break.cond; rw [g0', hcj, g1', Bool.and_false, Bool.false_and, Bool.false_and]; rfl
                      have hw3 := impl_Break.w_up j hj6
                      have hw4 := (i64_w _).trans hw3
                      have hw5 := impl_Break.w_dn j hj6
                      have hw6 := (i64_w _).trans hw5
                      go_wp2_with (first | (go_at_call 72; with_reducible refine (hcall _ (HMS2.out.drewN _) (j : Int) false g0').mono ?_; rintro e w' ⟨rfl, ⟨_, rfl⟩⟩) | (go_at_call 73; with_reducible refine (hclj _).mono ?_; rintro e w' ⟨rfl, ⟨_, rfl⟩⟩) | (go_at_call 74; with_reducible refine (hput _).mono ?_; rintro e w8 ⟨rfl, v8, g1, g2, g3, g4, _⟩; have HM8 := Lib.hid ((HMS2.out.drewN _).put g1 g2 g3 g4); clear g1 g2 g3 g4))
                      clear hcall hput hw3 hw4 hw5 hw6
                      go_roundw
                      case rel => exact ⟨j, fuel, v8, _, rfl, HM8.out, HRX hcd, by omega, by simp; omega, hjl⟩
                      case measure => have := HC.out; simp only [Int.toNat_natCast]; omega
                · have d2 : decide ((j : Int) < (l1.length : Int)) = false := decide_eq_false (by omega)
                  have g0' : impl_Break.sol l1 (j : Int) = false := by unfold impl_Break.sol; rw [d2, Bool.and_false, Bool.false_and]
                  have hcd : impl_Break.cond l1 (j : Int) = false := by unfold impl_Break.cond; rw [g0', d2, Bool.false_and, Bool.false_and, Bool.false_and]; rfl
                  clear hms2
                  have hw3 := impl_Break.w_up j hj6
                  have hw4 := (i64_w _).trans hw3
                  have hw5 := impl_Break.w_dn j hj6
                  have hw6 := (i64_w _).trans hw5
                  go_wp2_with (first | (go_at_call 72; with_reducible refine (hcall _ (HMS2.out.drewN _) (j : Int) false g0').mono ?_; rintro e w' ⟨rfl, ⟨_, rfl⟩⟩) | (go_at_call 74; with_reducible refine (hput _).mono ?_; rintro e w8 ⟨rfl, v8, g1, g2, g3, g4, _⟩; have HM8 := Lib.hid ((HMS2.out.drewN _).put g1 g2 g3 g4); clear g1 g2 g3 g4))
                  clear hcall hput hw3 hw4 hw5 hw6
                  go_roundw
                  case rel => exact ⟨j, fuel, v8, _, rfl, HM8.out, HRX hcd, by omega, by simp; omega, hjl⟩
                  case measure => have := HC.out; simp only [Int.toNat_natCast]; omega
            · have hs' : impl_Break.sol l1 (i : Int) = false := Bool.eq_false_iff.2 hs
              have hcs : ∀ W, impl_Break.MS a0 w b6 bo (some ad) A4 c1 c4 l1 AT vo out W → Calls Tryd.prog 72 #[.int .i64 (i : Int), .pointer (some ⟨b6, 0, none⟩)] W fun e w' => e = .returned (.bool false) ∧ Drawn0 W w' := fun W hW => by
                have h_ := HSL.out W hW (i : Int); rw [hs'] at h_; exact h_
              have hw1 : wrap64 ((i : Int) + 1) = ((i + 1 : Nat) : Int) := by have := HC.out; have := HL1.out; have := (impl_Decode_runes_len a0 a0.size 0); rw [← HE1.out] at this; unfold wrap64; omega
              have hw2 : IntKind.i64.wrap ((i : Int) + 1) = ((i + 1 : Nat) : Int) := (i64_w _).trans hw1
              have HTK2 : Hid (impl_Break.toks a0 l1 AT fuel (i + 1) out = impl_Break.toks a0 l1 AT l1.length 0 []) := by
                show _ = _
                rw [← HTK.out]
                simp only [impl_Break.toks]
                rw [if_pos HC.out, if_neg k4, if_neg hs]
              clear hsol
              go_wp2_with (first | (go_at_call 73; refine (hcl _).mono ?_; rintro e w' ⟨rfl, ⟨nd, rfl⟩⟩) | (go_at_call 72; refine (hcs _ (HMS.out.drewN _)).mono ?_; rintro e w' ⟨rfl, ⟨nd2, rfl⟩⟩))
              clear hcs hcl hcell hx6 d1 p1 p2 hw1 hw2
              go_roundw
              case rel => exact ⟨i + 1, fuel, vo, out, rfl, HMS.out.drewN _, HTK2, by omega, by omega, by have := HC.out; omega⟩
              case measure => have := HC.out; simp only [Int.toNat_natCast]; omega
        · have hE : out = impl_Break.tl a0 := by
            have h_ := HTK.out
            have e0 : impl_Break.toks a0 l1 AT fuel i out = out := by
              cases fuel with
              | zero => rfl
              | succ f => simp only [impl_Break.toks]; rw [if_neg hc]
            rw [e0] at h_
            rw [h_]; unfold impl_Break.tl
            rw [← hAT, HE2.out, HE1.out]
          have hR0 := HRR.out
          have d1 : decide ((i : Int) < (l1.length : Int)) = false := decide_eq_false (by omega)
          have d1b : decide (i < l1.length) = false := decide_eq_false hc
          have d1c : (i < l1.length) = False := eq_false hc
          obtain ⟨Ao, co, rfl⟩ := Kd.R_slice hms.2.2.2.2.2.2.1
          have hx8 := (blk_cell hms.2.2.2.1 0).trans rfl
          by_cases hm : 8192 < out.length
          · rw [← hE, if_pos hm] at hR0
            obtain ⟨rfl, rfl⟩ := Prod.mk.inj hR0
            have d2 : decide ((8192 : Int) < (out.length : Int)) = true := decide_eq_true (by omega)
            have d2b : decide (8192 < out.length) = true := decide_eq_true hm
            have d2c : (8192 < out.length) = True := eq_true hm
            clear hms hE hR0 hm hc hf ho1 hi1
            go_wp2
            go_ret2
            exact ⟨_, rfl, Kd.R_nil _ _ _ _ _, HMS.out.2.2.2.2.2.2.2.1⟩
          · rw [← hE, if_neg hm] at hR0
            obtain ⟨rfl, rfl⟩ := Prod.mk.inj hR0
            have d2 : decide ((8192 : Int) < (out.length : Int)) = false := decide_eq_false (by omega)
            have d2b : decide (8192 < out.length) = false := decide_eq_false hm
            have d2c : (8192 < out.length) = False := eq_false hm
            clear hms hE hR0 hm hc hf ho1 hi1
            go_wp2
            go_ret2
            exact ⟨_, rfl, HMS.out.2.2.2.2.2.2.1, HMS.out.2.2.2.2.2.2.2.1⟩
set_option maxRecDepth 1000000 in
set_option maxHeartbeats 4000000 in
theorem impl_Break.bad (a0 : ByteArray) (c : Int) (w : World) (hT : TabW w) (hc : c ≠ 0) (hd : impl_Decode.f a0 = some ([], c)) :
    Calls Tryd.prog 33 #[.string a0] w fun e w' => ∃ v0_ : Value, e = .returned (.tuple #[v0_, .int .i64 c]) ∧ Kd.R k53 53 w' w.heap.size (fun _ => True) v0_ [] ∧ Below w.heap.size w w' := by
  have hcd : ∀ W, Below w.heap.size w W → _ := fun W hb => impl_Decode.calls a0 [] c W (TabW.below hT hb) hd
  clear hd
  have d0 : (c != 0) = true := bne_iff_ne.2 hc
  clear hc
  go_enter Tryd.func33, Tryd.ntmps33
  go_wp2_with (go_at_call 16; refine (hcd _ (below_alloc (Below.refl _ _) _)).mono ?_; rintro e w1 ⟨v0, rfl, _, hb1⟩; have HB1 : Hid (Below w.heap.size w w1) := Lib.hid ((below_alloc (Below.refl _ w) (Obj.cells #[Value.string a0] 9)).trans (hb1.mono (by simp))); clear hb1 hcd)
  go_ret2
  exact ⟨_, rfl, Kd.R_nil _ _ _ _ _, HB1.out⟩
def impl_Break.f (a0 : ByteArray) : Option (List S53 × Int) := if (a0.size : Int) > 65536 then some ([], 2) else if Lib.validD a0.data.toList = true then (if 8192 < (impl_Break.tl a0).length then some ([], 11) else some (impl_Break.tl a0, 0)) else some ([], 3)
theorem impl_Break.calls (a0 : ByteArray) (r1 : List S53) (r2 : Int) (w : World) (hT : TabW w) (h : impl_Break.f a0 = some (r1, r2)) :
    Calls Tryd.prog 33 #[.string a0] w fun e w' => ∃ v0_ : Value, e = .returned (.tuple #[v0_, .int .i64 r2]) ∧ Kd.R k53 53 w' w.heap.size (fun _ => True) v0_ r1 ∧ Below w.heap.size w w' := by
  unfold impl_Break.f at h
  by_cases hbig : (a0.size : Int) > 65536
  · rw [if_pos hbig] at h
    simp only [Option.some.injEq, Prod.mk.injEq] at h
    obtain ⟨rfl, rfl⟩ := h
    exact impl_Break.bad a0 2 w hT (by decide) (by unfold impl_Decode.f; rw [if_pos hbig])
  · rw [if_neg hbig] at h
    by_cases hv : Lib.validD a0.data.toList = true
    · rw [if_pos hv] at h
      refine impl_Break.main a0 r1 r2 w hT (by omega) (by unfold impl_Decode.f; rw [if_neg hbig, if_pos hv]) ?_
      by_cases hm : 8192 < (impl_Break.tl a0).length
      · rw [if_pos hm] at h ⊢; exact Option.some.inj h
      · rw [if_neg hm] at h ⊢; exact Option.some.inj h
    · rw [if_neg hv] at h
      simp only [Option.some.injEq, Prod.mk.injEq] at h
      obtain ⟨rfl, rfl⟩ := h
      exact impl_Break.bad a0 3 w hT (by decide) (by unfold impl_Decode.f; rw [if_neg hbig, if_neg hv])

end Go.Proofs.YtcokeankiedfcaaDoor.XFnText
