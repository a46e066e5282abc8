-- A printed text of this session (wip/x/xprint.py).
import Derived.Test.YtcokeankiedfcaaDoorXFnSuggestx0
namespace Go.Proofs.YtcokeankiedfcaaDoor.XFnSuggest
open Go.RowKit Go.Proofs.YtcokeankiedfcaaDoorW.PrintWords Go.Proofs.YtcokeankiedfcaaDoorW.PrintLast Go.Proofs.YtcokeankiedfcaaDoorW.PrintMore
attribute [local go_sem] max2_int min2_int max_two min_two max_three min_three max_four min_four   -- for this text's walks alone
set_option linter.unusedVariables false
set_option linter.unusedSimpArgs false
def fl4_ (n m : Nat) : Array Bool := ((List.range n).map fun i => m.testBit i).toArray

/-! ### spec_l05Edits: function 56 -/
mutual
def spec_l05Edits.l0 : Nat → List Int → List Int → List Int → Int → Option (Int)
 | 0, _, _, _, _ => none
 | k + 1, x0, x1, x5, x6 => if x6 ≤ (x1.length : Int) then (if x5.length < 17592186044416 then (spec_l05Edits.l0 k x0 x1 (x5 ++ [x6]) (wrap64 (x6 + 1))) else (none)) else (spec_l05Edits.l1 k x0 x1 x5 1)
def spec_l05Edits.l1 : Nat → List Int → List Int → List Int → Int → Option (Int)
 | 0, _, _, _, _ => none
 | k + 1, x0, x1, x5, x7 => if x7 ≤ (x0.length : Int) then (spec_l05Edits.l2 k x0 x1 x5 x7 (([x7] : List Int)) 1) else (if 0 ≤ (x1.length : Int) then (if (x1.length : Int) < (x5.length : Int) then (some (rd x5 (x1.length : Int))) else (none)) else (none))
def spec_l05Edits.l2 : Nat → List Int → List Int → List Int → Int → List Int → Int → Option (Int)
 | 0, _, _, _, _, _, _ => none
 | k + 1, x0, x1, x5, x7, x8, x9 => if x9 ≤ (x1.length : Int) then (if 0 ≤ (wrap64 (x9 - 1)) then (if (wrap64 (x9 - 1)) < (x5.length : Int) then (if 0 ≤ (wrap64 (x7 - 1)) then (if (wrap64 (x7 - 1)) < (x0.length : Int) then (if (wrap64 (x9 - 1)) < (x1.length : Int) then (if (rd x0 (wrap64 (x7 - 1))) = (rd x1 (wrap64 (x9 - 1))) then (if 0 ≤ x9 then (if x9 < (x5.length : Int) then (if (wrap64 (x9 - 1)) < (x8.length : Int) then (if x8.length < 17592186044416 then (spec_l05Edits.l2 k x0 x1 x5 x7 (x8 ++ [mn (mn (rd x5 (wrap64 (x9 - 1))) (wrap64 ((rd x5 x9) + 1))) (wrap64 ((rd x8 (wrap64 (x9 - 1))) + 1))]) (wrap64 (x9 + 1))) else (none)) else (none)) else (none)) else (none)) else (if 0 ≤ x9 then (if x9 < (x5.length : Int) then (if (wrap64 (x9 - 1)) < (x8.length : Int) then (if x8.length < 17592186044416 then (spec_l05Edits.l2 k x0 x1 x5 x7 (x8 ++ [mn (mn (wrap64 ((rd x5 (wrap64 (x9 - 1))) + 1)) (wrap64 ((rd x5 x9) + 1))) (wrap64 ((rd x8 (wrap64 (x9 - 1))) + 1))]) (wrap64 (x9 + 1))) else (none)) else (none)) else (none)) else (none))) else (none)) else (none)) else (none)) else (none)) else (none)) else (spec_l05Edits.l1 k x0 x1 x8 (wrap64 (x7 + 1)))
end
def spec_l05Edits.f (k : Nat) (l0 : List Int) (l1 : List Int) : Option (Int) := spec_l05Edits.l0 k l0 l1 (([] : List Int)) 0
theorem spec_l05Edits.mono_l : ∀ k, (∀ y0 y1 y2 y3, LeO (spec_l05Edits.l0 k y0 y1 y2 y3) (spec_l05Edits.l0 (k + 1) y0 y1 y2 y3)) ∧ (∀ y0 y1 y2 y3, LeO (spec_l05Edits.l1 k y0 y1 y2 y3) (spec_l05Edits.l1 (k + 1) y0 y1 y2 y3)) ∧ (∀ y0 y1 y2 y3 y4 y5, LeO (spec_l05Edits.l2 k y0 y1 y2 y3 y4 y5) (spec_l05Edits.l2 (k + 1) y0 y1 y2 y3 y4 y5))
 | 0 => ⟨fun _ _ _ _ r h => by simp [spec_l05Edits.l0] at h, fun _ _ _ _ r h => by simp [spec_l05Edits.l1] at h, fun _ _ _ _ _ _ r h => by simp [spec_l05Edits.l2] at h⟩
 | k + 1 => by
  obtain ⟨ih0, ih1, ih2⟩ := spec_l05Edits.mono_l k
  refine ⟨?_, ?_, ?_⟩
  all_goals intros
  all_goals first | unfold spec_l05Edits.l0 | unfold spec_l05Edits.l1 | unfold spec_l05Edits.l2
  all_goals
   repeat' first
   | (with_reducible exact ih0 _ _ _ _)
   | (with_reducible exact ih1 _ _ _ _)
   | (with_reducible exact ih2 _ _ _ _ _ _)
   | (with_reducible exact LeO.refl _)
   | (with_reducible exact LeO.none _)
   | (with_reducible refine LeO.ite ?_ ?_)
   | (with_reducible refine LeO.bind ?_ (fun _ => ?_))
theorem spec_l05Edits.mono : ∀ a0 a1 k, LeO (spec_l05Edits.f k a0 a1) (spec_l05Edits.f (k + 1) a0 a1) := by
 intro a0 a1 k
 obtain ⟨ih0, ih1, ih2⟩ := spec_l05Edits.mono_l k
 unfold spec_l05Edits.f
 repeat' first
  | (with_reducible exact ih0 _ _ _ _)
  | (with_reducible exact ih1 _ _ _ _)
  | (with_reducible exact ih2 _ _ _ _ _ _)
  | (with_reducible exact LeO.refl _)
  | (with_reducible exact LeO.none _)
  | (with_reducible refine LeO.ite ?_ ?_)
  | (with_reducible refine LeO.bind ?_ (fun _ => ?_))
def spec_l05Edits.T14 : Bool × List (List Nat × List Nat) := (true, [([], []), ([], []), ([1], [1]), ([0, 2], [0, 2]), ([3], [3]), ([], []), ([], []), ([6], [6]), ([5, 7], [5, 7]), ([8], [8]), ([4, 9], [4, 9])])
def spec_l05Edits.B14 : List Nat := [0, 0, 2, 7, 15, 0, 0, 64, 224, 480, 1023]
theorem spec_l05Edits.tab14 : rtab .any (opsOf Tryd.f56 14) = spec_l05Edits.T14 := by kernel_rfl
theorem spec_l05Edits.bits14 : waitsOk spec_l05Edits.T14.2 spec_l05Edits.B14 = true := by kernel_rfl
def spec_l05Edits.T16 : Bool × List (List Nat × List Nat) := (true, [([], []), ([], []), ([], []), ([], []), ([2, 3], [2, 3]), ([4], [4]), ([5], [5]), ([], []), ([], []), ([8], [8]), ([7, 9], [7, 9]), ([10], [10]), ([11], [11]), ([1, 6, 12], [1, 6, 12]), ([13], [13]), ([0, 14], [0, 14]), ([15, 15, 0, 1, 2, 3, 4, 5, 6, 7, 8, 9, 10, 11, 12, 13, 14, 15], [0, 7, 15])])
def spec_l05Edits.B16 : List Nat := [0, 0, 0, 0, 12, 28, 60, 0, 0, 256, 896, 1920, 3968, 8190, 16382, 32767, 65535]
theorem spec_l05Edits.tab16 : rtab .any (opsOf Tryd.f56 16) = spec_l05Edits.T16 := by kernel_rfl
theorem spec_l05Edits.bits16 : waitsOk spec_l05Edits.T16.2 spec_l05Edits.B16 = true := by kernel_rfl
set_option maxHeartbeats 8000000 in
set_option maxRecDepth 100000 in
theorem spec_l05Edits.calls (k : Nat) (A0 : Option Addr) (c0 : Nat) (l0 : List Int) (A1 : Option Addr) (c1 : Nat) (l1 : List Int) (r : Int) (w : World) (hr0 : Kd.C (Kd.int .i64) w A0 l0.length l0) (hc0 : l0.length ≤ c0) (hr1 : Kd.C (Kd.int .i64) w A1 l1.length l1) (hc1 : l1.length ≤ c1) (h : spec_l05Edits.f k l0 l1 = some r) :
 Calls Tryd.prog 56 #[.slice A0 l0.length c0, .slice A1 l1.length c1] w fun e w' => e = .returned (.int .i64 r) ∧ Below w.heap.size w w' := by
 have HR0 := Aside0.mk hr0
 have HC0 := Aside0.mk hc0
 clear hr0 hc0
 have HR1 := Aside0.mk hr1
 have HC1 := Aside0.mk hc1
 clear hr1 hc1
 have HB := Aside0.mk (Below.refl w.heap.size w)
 have H : (spec_l05Edits.l0 k l0 l1 (([] : List Int)) 0) = some r := h
 clear h
 obtain ⟨y165, hy165⟩ : ∃ y_ : List Int, y_ = (([] : List Int)) := ⟨_, rfl⟩
 replace H : (spec_l05Edits.l0 k l0 l1 y165 0) = some r := zby hy165 H
 have Ny165 := Aside0.mk hy165
 clear hy165
 have H' := Aside0.mk H
 clear H
 go_enter Tryd.func56, Tryd.ntmps56
 go_wp2_with (first | ((with_reducible refine gate_dst (N := 11) rfl ?_); refine Kd.R_lit (Kd.int .i64) _ 3 ?hg (N := 11) ?hd (xs := ([] : List Int)) (inner := []) (ok := fun _ => True) (okp := fun _ => True) ?hr ?hp (fun _ hk => hk) trivial (Below.refl _ _) (Nat.le_refl _) (by simp) ?_; (case hd => rfl); (case hg => rfl); (case hr => first | (go_simp; done) | (go_simp; rfl)); (case hp => exact (Reps.none _ _)); intro v166 w3 ho4 hb hg_ hnew_; clear hg_ hnew_; (first | rw [← Ny165.out] at ho4 | (simp only [Int.reduceToNat] at ho4; rw [← Ny165.out] at ho4)); have HO167 := Aside0.mk (Kd.R_lower ho4 (below_size (zh HB))); replace HB := Aside0.mk (below_step (zh HB) hb); clear hb ho4))
 go_loopg [5, 6] k (fun kq v5 v6 w' => ∃ (x5_1 : List Int) (x6_1 : Int), v6 = .int .i64 x6_1 ∧ Aside0 (spec_l05Edits.l0 kq l0 l1 x5_1 x6_1 = some r) ∧ Aside0 (kq ≤ k) ∧ Aside0 (Kd.R (Kd.int .i64) 3 w' w.heap.size (fun _ => True) v5 x5_1) ∧ Aside0 (Below w.heap.size w w'))
 case atStart => exact ⟨(y165), (0), zrs, H', ⟨Nat.le_refl _⟩, ⟨zr HO167⟩, ⟨zh HB⟩⟩
 case round =>
  clear H'
  try clear c1
  obtain ⟨x5_1, x6_1, rfl, HA, HK1, HO_5, HB⟩ := hrel
  cases gk with
  | zero => exact absurd HA.out (by simp [spec_l05Edits.l0])
  | succ k1 =>
   have H := HA.out
   clear HA
   simp only [spec_l05Edits.l0] at H
   by_cases c5 : x6_1 ≤ (l1.length : Int)
   ·rw [if_pos c5] at H
    have c5b0 : decide (x6_1 ≤ (l1.length : Int)) = true := decide_eq_true c5
    clear c5
    by_cases c6 : x5_1.length < 17592186044416
    rotate_left
    ·rw [if_neg c6] at H
     exact absurd H (by simp)
    rw [if_pos c6] at H
    have LMc6 := Aside0.mk c6
    clear c6
    obtain ⟨y168, hy168⟩ : ∃ y_ : List Int, y_ = (x5_1 ++ [x6_1]) := ⟨_, rfl⟩
    replace H : (spec_l05Edits.l0 k1 l0 l1 y168 (wrap64 (x6_1 + 1))) = some r := zby hy168 H
    have Ny168 := Aside0.mk hy168
    clear hy168
    have H' := Aside0.mk H
    clear H
    go_wp2_with (first | ((with_reducible refine gate_builtin (b := .append) (xs := #[.tmp 18, .tmp 20]) rfl ?_); at_builtin; refine Kd.R_append (Kd.int .i64) (w0 := w) w.heap.size rfl (.tmp 18) (.tmp 20) 22 3 (.int .i64 0) 8 rfl Tryd.underlying22 info3 rfl (by decide) (by omega) u5 x5_1 x6_1 [.int .i64 x6_1] (fun _ => True) (fun _ => False) rfl rfl ?aP (fun _ hk => hk.elim) ?aF ?aO ?aB ?aS ?aL ?_; (case aP => exact rfl); (case aB => exact (zh HB)); (case aF => exact (fun _ _ => trivial)); (case aO => exact (zr HO_5)); (case aS => exact (below_size (zh HB))); (case aL => have := LMc6.out; omega); intro v169 w7 ho hb hg hat; rw [← Ny168.out] at ho; replace HB := Aside0.mk (hb); have HO170 := Aside0.mk (ho); clear HO_5; clear ho hb hg hat))
    go_roundg k1
    case measure => have := HK1.out; omega
    case rel => exact ⟨(y168), (wrap64 (x6_1 + 1)), zrs, H', ⟨by have := HK1.out; omega⟩, ⟨zr HO170⟩, ⟨zh HB⟩⟩
   rw [if_neg c5] at H
   have c5b0 : decide (x6_1 ≤ (l1.length : Int)) = false := decide_eq_false c5
   clear c5
   have H' := Aside0.mk H
   clear H
   go_wp2
   go_loopg [5, 7] k1 (fun kq v5 v7 w' => ∃ (x5_2 : List Int) (x7_2 : Int), v7 = .int .i64 x7_2 ∧ Aside0 (spec_l05Edits.l1 kq l0 l1 x5_2 x7_2 = some r) ∧ Aside0 (kq ≤ k1) ∧ Aside0 (Kd.R (Kd.int .i64) 3 w' w.heap.size (fun _ => True) v5 x5_2) ∧ Aside0 (Below w.heap.size w w'))
   case atStart => exact ⟨(x5_1), (1), zrs, H', ⟨Nat.le_refl _⟩, ⟨zr HO_5⟩, ⟨zh HB⟩⟩
   case round =>
    clear H'
    try clear c1
    try clear c5
    try clear c5b0
    obtain ⟨x5_2, x7_2, rfl, HA, HK2, HO_5, HB⟩ := hrel
    cases gk with
    | zero => exact absurd HA.out (by simp [spec_l05Edits.l1])
    | succ k2 =>
     have H := HA.out
     clear HA
     simp only [spec_l05Edits.l1] at H
     by_cases c8 : x7_2 ≤ (l0.length : Int)
     rotate_left
     ·rw [if_neg c8] at H
      have c8b0 : decide (x7_2 ≤ (l0.length : Int)) = false := decide_eq_false c8
      clear c8
      by_cases c42 : 0 ≤ (l1.length : Int)
      rotate_left
      ·rw [if_neg c42] at H
       exact absurd H (by simp)

      rw [if_pos c42] at H
      have c42b0 : decide (0 ≤ (l1.length : Int)) = true := decide_eq_true c42
      have c42b1 : decide (0 ≤ l1.length) = true := decide_eq_true (by omega)
      clear c42
      by_cases c43 : (l1.length : Int) < (x5_2.length : Int)
      rotate_left
      ·rw [if_neg c43] at H
       exact absurd H (by simp)
      rw [if_pos c43] at H
      have c43b0 : decide ((l1.length : Int) < (x5_2.length : Int)) = true := decide_eq_true c43
      have c43b1 : decide (l1.length < x5_2.length) = true := decide_eq_true (Int.ofNat_lt.mp c43)
      clear c43
      obtain rfl := Option.some.inj H
      obtain ⟨Ao44, co44, eo44⟩ := Kd.R_slice HO_5.out
      subst eo44
      have p171 : 0 ≤ ((l1.length : Int) : Int) := of_decide_eq_true zas
      have q171 : (l1.length : Int) < (x5_2.length : Int) := of_decide_eq_true zas
      obtain ⟨ad171, e171, hx171_0⟩ := Kd.at_int (Kd.R_reads' HO_5.out).2.2 (l1.length : Int) p171 q171
      cases e171
      (try simp only [Go.IntWalk.toNatUp] at hx171_0)
      replace p171 := eq_true p171
      replace q171 := eq_true q171
      go_wp2
      go_ret
      exact ⟨zre, zh HB⟩
     rw [if_pos c8] at H
     have c8b0 : decide (x7_2 ≤ (l0.length : Int)) = true := decide_eq_true c8
     clear c8
     obtain ⟨y172, hy172⟩ : ∃ y_ : List Int, y_ = (([x7_2] : List Int)) := ⟨_, rfl⟩
     replace H : (spec_l05Edits.l2 k2 l0 l1 x5_2 x7_2 y172 1) = some r := zby hy172 H
     have Ny172 := Aside0.mk hy172
     clear hy172
     have H' := Aside0.mk H
     clear H
     go_wp2_with (first | ((with_reducible refine gate_dst (N := 29) rfl ?_); refine Kd.R_lit (Kd.int .i64) _ 3 ?hg (N := 29) ?hd (xs := ([x7_2] : List Int)) (inner := [.int .i64 x7_2]) (ok := fun _ => True) (okp := fun _ => True) ?hr ?hp (fun _ hk => hk) trivial (Below.refl _ _) (Nat.le_refl _) (by simp) ?_; (case hd => rfl); (case hg => rfl); (case hr => first | (go_simp; done) | (go_simp; rfl)); (case hp => exact (Reps.one (show Kd.M (Kd.int .i64) _ _ _ x7_2 [.int .i64 x7_2] from rfl) (Reps.none _ _))); intro v173 w9 ho10 hb hg_ hnew_; clear hg_ hnew_; (first | rw [← Ny172.out] at ho10 | (simp only [Int.reduceToNat] at ho10; rw [← Ny172.out] at ho10)); have HO174 := Aside0.mk (Kd.R_lower (Kd.R_new' ho10 (Kd.R_lt (zr HO_5))) (below_size (zh HB))); replace HO_5 := Aside0.mk (Kd.R_elder' (zr HO_5) (Kd.R_base ho10) hb); replace HB := Aside0.mk (below_step (zh HB) hb); clear hb ho10))
     go_loopg [8, 9] k2 (fun kq v8 v9 w' => ∃ (x8_3 : List Int) (x9_3 : Int), v9 = .int .i64 x9_3 ∧ Aside0 (spec_l05Edits.l2 kq l0 l1 x5_2 x7_2 x8_3 x9_3 = some r) ∧ Aside0 (kq ≤ k2) ∧ Aside0 (Kd.R (Kd.int .i64) 3 w' w.heap.size (fun k_ => some k_ ≠ (v8 : Value).ownBlock) u5 x5_2) ∧ Aside0 (Kd.R (Kd.int .i64) 3 w' w.heap.size (fun k_ => some k_ ≠ (u5 : Value).ownBlock) v8 x8_3) ∧ Aside0 (Below w.heap.size w w'))
     case atStart => exact ⟨(y172), (1), zrs, H', ⟨Nat.le_refl _⟩, ⟨Kd.R_mono (zr HO_5) (fun _ hk => hk.2)⟩, ⟨Kd.R_mono (zr HO174) (fun _ hk => hk.2)⟩, ⟨zh HB⟩⟩
     case round =>
      clear H'
      try clear c1
      try clear c5
      try clear c5b0
      try clear c8
      try clear c8b0
      obtain ⟨x8_3, x9_3, rfl, HA, HK3, HO_5, HO_8, HB⟩ := hrel
      cases gk with
      | zero => exact absurd HA.out (by simp [spec_l05Edits.l2])
      | succ k3 =>
       have H := HA.out
       clear HA
       simp only [spec_l05Edits.l2] at H
       by_cases c11 : x9_3 ≤ (l1.length : Int)
       rotate_left
       ·rw [if_neg c11] at H
        have c11b0 : decide (x9_3 ≤ (l1.length : Int)) = false := decide_eq_false c11
        clear c11
        have H' := Aside0.mk H
        clear H
        go_wp2
        go_roundg k3
        case measure => have := HK1.out; have := HK2.out; have := HK3.out; omega
        case rel => exact ⟨(x8_3), (wrap64 (x7_2 + 1)), zrs, H', ⟨by have := HK1.out; have := HK2.out; have := HK3.out; omega⟩, ⟨Kd.R_mono (zr HO_8) (fun _ hk => trivial)⟩, ⟨zh HB⟩⟩
       rw [if_pos c11] at H
       have c11b0 : decide (x9_3 ≤ (l1.length : Int)) = true := decide_eq_true c11
       clear c11
       obtain ⟨ji12, hji12⟩ : ∃ j_ : Int, (wrap64 (x9_3 - 1)) = j_ := ⟨_, rfl⟩
       replace H : (if 0 ≤ (ji12) then (if (ji12) < (x5_2.length : Int) then (if 0 ≤ (wrap64 (x7_2 - 1)) then (if (wrap64 (x7_2 - 1)) < (l0.length : Int) then (if (ji12) < (l1.length : Int) then (if (rd l0 (wrap64 (x7_2 - 1))) = (rd l1 (ji12)) then (if 0 ≤ x9_3 then (if x9_3 < (x5_2.length : Int) then (if (ji12) < (x8_3.length : Int) then (if x8_3.length < 17592186044416 then (spec_l05Edits.l2 k3 l0 l1 x5_2 x7_2 (x8_3 ++ [mn (mn (rd x5_2 (ji12)) (wrap64 ((rd x5_2 x9_3) + 1))) (wrap64 ((rd x8_3 (ji12)) + 1))]) (wrap64 (x9_3 + 1))) else (none)) else (none)) else (none)) else (none)) else (if 0 ≤ x9_3 then (if x9_3 < (x5_2.length : Int) then (if (ji12) < (x8_3.length : Int) then (if x8_3.length < 17592186044416 then (spec_l05Edits.l2 k3 l0 l1 x5_2 x7_2 (x8_3 ++ [mn (mn (wrap64 ((rd x5_2 (ji12)) + 1)) (wrap64 ((rd x5_2 x9_3) + 1))) (wrap64 ((rd x8_3 (ji12)) + 1))]) (wrap64 (x9_3 + 1))) else (none)) else (none)) else (none)) else (none))) else (none)) else (none)) else (none)) else (none)) else (none)) = some r := by first | (rw [hji12] at H; exact H) | (simp only [hji12] at H ⊢; exact H)
       have hji12w : (IntKind.i64.wrap (x9_3 - 1)) = ji12 := (i64_w _).trans hji12
       by_cases c13 : 0 ≤ (ji12)
       rotate_left
       ·rw [if_neg c13] at H
        exact absurd H (by simp)
       rw [if_pos c13] at H
       have c13b0 : decide (0 ≤ (ji12)) = true := decide_eq_true c13
       clear c13
       by_cases c14 : (ji12) < (x5_2.length : Int)
       rotate_left
       ·rw [if_neg c14] at H
        exact absurd H (by simp)
       rw [if_pos c14] at H
       have c14b0 : decide ((ji12) < (x5_2.length : Int)) = true := decide_eq_true c14
       clear c14
       obtain ⟨ji15, hji15⟩ : ∃ j_ : Int, (wrap64 (x7_2 - 1)) = j_ := ⟨_, rfl⟩
       replace H : (if 0 ≤ (ji15) then (if (ji15) < (l0.length : Int) then (if (ji12) < (l1.length : Int) then (if (rd l0 (ji15)) = (rd l1 (ji12)) then (if 0 ≤ x9_3 then (if x9_3 < (x5_2.length : Int) then (if (ji12) < (x8_3.length : Int) then (if x8_3.length < 17592186044416 then (spec_l05Edits.l2 k3 l0 l1 x5_2 x7_2 (x8_3 ++ [mn (mn (rd x5_2 (ji12)) (wrap64 ((rd x5_2 x9_3) + 1))) (wrap64 ((rd x8_3 (ji12)) + 1))]) (wrap64 (x9_3 + 1))) else (none)) else (none)) else (none)) else (none)) else (if 0 ≤ x9_3 then (if x9_3 < (x5_2.length : Int) then (if (ji12) < (x8_3.length : Int) then (if x8_3.length < 17592186044416 then (spec_l05Edits.l2 k3 l0 l1 x5_2 x7_2 (x8_3 ++ [mn (mn (wrap64 ((rd x5_2 (ji12)) + 1)) (wrap64 ((rd x5_2 x9_3) + 1))) (wrap64 ((rd x8_3 (ji12)) + 1))]) (wrap64 (x9_3 + 1))) else (none)) else (none)) else (none)) else (none))) else (none)) else (none)) else (none)) = some r := by first | (rw [hji15] at H; exact H) | (simp only [hji15] at H ⊢; exact H)
       have hji15w : (IntKind.i64.wrap (x7_2 - 1)) = ji15 := (i64_w _).trans hji15
       by_cases c16 : 0 ≤ (ji15)
       rotate_left
       ·rw [if_neg c16] at H
        exact absurd H (by simp)
       rw [if_pos c16] at H
       have c16b0 : decide (0 ≤ (ji15)) = true := decide_eq_true c16
       clear c16
       by_cases c17 : (ji15) < (l0.length : Int)
       rotate_left
       ·rw [if_neg c17] at H
        exact absurd H (by simp)
       rw [if_pos c17] at H
       have c17b0 : decide ((ji15) < (l0.length : Int)) = true := decide_eq_true c17
       clear c17
       by_cases c18 : (ji12) < (l1.length : Int)
       rotate_left
       ·rw [if_neg c18] at H
        exact absurd H (by simp)
       rw [if_pos c18] at H
       have c18b0 : decide ((ji12) < (l1.length : Int)) = true := decide_eq_true c18
       clear c18
       by_cases c19 : (rd l0 (ji15)) = (rd l1 (ji12))
       ·rw [if_pos c19] at H
        have c19b0 : ((rd l0 (ji15)) == (rd l1 (ji12))) = true := beq_iff_eq.mpr c19
        have c19b1 : ((rd l0 (ji15)) != (rd l1 (ji12))) = false := bne_eq_false_iff_eq.mpr c19
        clear c19
        by_cases c20 : 0 ≤ x9_3
        rotate_left
        ·rw [if_neg c20] at H
         exact absurd H (by simp)
        rw [if_pos c20] at H
        have c20b0 : decide (0 ≤ x9_3) = true := decide_eq_true c20
        clear c20
        by_cases c21 : x9_3 < (x5_2.length : Int)
        rotate_left
        ·rw [if_neg c21] at H
         exact absurd H (by simp)
        rw [if_pos c21] at H
        have c21b0 : decide (x9_3 < (x5_2.length : Int)) = true := decide_eq_true c21
        clear c21
        by_cases c22 : (ji12) < (x8_3.length : Int)
        rotate_left
        ·rw [if_neg c22] at H
         exact absurd H (by simp)
        rw [if_pos c22] at H
        have c22b0 : decide ((ji12) < (x8_3.length : Int)) = true := decide_eq_true c22
        clear c22
        obtain ⟨ji23, hji23⟩ : ∃ j_ : Int, (mn (rd x5_2 (ji12)) (wrap64 ((rd x5_2 x9_3) + 1))) = j_ := ⟨_, rfl⟩
        replace H : (if x8_3.length < 17592186044416 then (spec_l05Edits.l2 k3 l0 l1 x5_2 x7_2 (x8_3 ++ [mn (ji23) (wrap64 ((rd x8_3 (ji12)) + 1))]) (wrap64 (x9_3 + 1))) else (none)) = some r := by first | (rw [hji23] at H; exact H) | (simp only [hji23] at H ⊢; exact H)
        have hji23_ : (if (wrap64 ((rd x5_2 x9_3) + 1)) < (rd x5_2 (ji12)) then (wrap64 ((rd x5_2 x9_3) + 1)) else (rd x5_2 (ji12))) = ji23 := hji23
        obtain ⟨ji24, hji24⟩ : ∃ j_ : Int, (mn (ji23) (wrap64 ((rd x8_3 (ji12)) + 1))) = j_ := ⟨_, rfl⟩
        replace H : (if x8_3.length < 17592186044416 then (spec_l05Edits.l2 k3 l0 l1 x5_2 x7_2 (x8_3 ++ [ji24]) (wrap64 (x9_3 + 1))) else (none)) = some r := by first | (rw [hji24] at H; exact H) | (simp only [hji24] at H ⊢; exact H)
        have hji24_ : (if (wrap64 ((rd x8_3 (ji12)) + 1)) < (ji23) then (wrap64 ((rd x8_3 (ji12)) + 1)) else (ji23)) = ji24 := hji24
        by_cases c25 : x8_3.length < 17592186044416
        rotate_left
        ·rw [if_neg c25] at H
         exact absurd H (by simp)
        rw [if_pos c25] at H
        have LMc25 := Aside0.mk c25
        clear c25
        obtain ⟨y180, hy180⟩ : ∃ y_ : List Int, y_ = (x8_3 ++ [ji24]) := ⟨_, rfl⟩
        replace H : (spec_l05Edits.l2 k3 l0 l1 x5_2 x7_2 y180 (wrap64 (x9_3 + 1))) = some r := zby hy180 H
        have Ny180 := Aside0.mk hy180
        clear hy180
        have H' := Aside0.mk H
        clear H
        obtain ⟨Ao26, co26, eo26⟩ := Kd.R_slice HO_5.out
        subst eo26
        have p175 : 0 ≤ ((ji12) : Int) := of_decide_eq_true zas
        have q175 : (ji12) < (x5_2.length : Int) := of_decide_eq_true zas
        obtain ⟨ad175, e175, hx175_0⟩ := Kd.at_int (Kd.R_reads' HO_5.out).2.2 (ji12) p175 q175
        cases e175
        replace p175 := eq_true p175
        replace q175 := eq_true q175
        try go_wp2
        replace HO_5 := Aside0.mk (Kd.R_drew HO_5.out)
        replace HO_8 := Aside0.mk (Kd.R_drew HO_8.out)
        replace HB := Aside0.mk (below_drew1 HB.out)
        have p176 : 0 ≤ ((ji15) : Int) := of_decide_eq_true zas
        have q176 : (ji15) < (l0.length : Int) := of_decide_eq_true zas
        obtain ⟨ad176, e176, hx176_0⟩ := Kd.at_int HR0.out (ji15) p176 q176
        have hw176_0 := hx176_0
        cases e176
        replace hx176_0 := zx HB hx176_0
        replace p176 := eq_true p176
        replace q176 := eq_true q176
        have p177 : 0 ≤ ((ji12) : Int) := of_decide_eq_true zas
        have q177 : (ji12) < (l1.length : Int) := of_decide_eq_true zas
        obtain ⟨ad177, e177, hx177_0⟩ := Kd.at_int HR1.out (ji12) p177 q177
        have hw177_0 := hx177_0
        cases e177
        replace hx177_0 := zx HB hx177_0
        replace p177 := eq_true p177
        replace q177 := eq_true q177
        refine start_ (n := 11) (S := fun w' => w'.cell? (ad176.add ((ji15)).toNat) = some (.int .i64 (rd l0 (ji15))) ∧ w'.cell? (ad177.add ((ji12)).toNat) = some (.int .i64 (rd l1 (ji12)))) (ds := []) (fl4_ 11 0) (by kernel_rfl) rfl rfl ⟨(zxx HB hw176_0), (zxx HB hw177_0)⟩ (fun hHeld => ?_); refine with_tabW spec_l05Edits.tab14 spec_l05Edits.bits14 (fun HT_ HW_ => ?_)
        generalize wr.drew = w27 at HO_5 HO_8 HB hx176_0 hx177_0 hHeld ⊢
        refine zpu HT_ 0 41 (fl4_ 11 1) ?_
        refine zpu HT_ 1 42 (fl4_ 11 3) ?_
        refine zpu HT_ 2 43 (fl4_ 11 7) ?_
        refine zpu HT_ 3 44 (fl4_ 11 15) ?_
        refine zpu HT_ 5 46 (fl4_ 11 47) ?_
        refine zpu HT_ 6 47 (fl4_ 11 111) ?_
        refine zpu HT_ 7 48 (fl4_ 11 239) ?_
        refine zpu HT_ 8 49 (fl4_ 11 495) ?_
        refine take_ (i := 4) (N := some 45) (v := ?_) (a' := ?_) (fl4_ 11 511) rfl rfl (take_ofW HT_.out HW_.out (by kernel_rfl)) (fun _ _ _ h => h) (Or.inl ⟨by rfl, ?_⟩) hHeld ?_ ?_
        rotate_left
        ·rintro w' ⟨s0, s1⟩
         go_simp
         with_reducible rfl
        rotate_left
        ·simp only [Act.put, List.setIfInBounds_toArray, List.set_cons_zero, List.set_cons_succ, i64_w, i32_w]
         rfl
        refine take_ (i := 9) (N := some 50) (v := ?_) (a' := ?_) (fl4_ 11 1023) rfl rfl (take_ofW HT_.out HW_.out (by kernel_rfl)) (fun _ _ _ h => h) (Or.inl ⟨by rfl, ?_⟩) hHeld ?_ ?_
        rotate_left
        ·rintro w' ⟨s0, s1⟩
         go_simp
         with_reducible rfl
        rotate_left
        ·simp only [Act.put, List.setIfInBounds_toArray, List.set_cons_zero, List.set_cons_succ, i64_w, i32_w]
         rfl
        refine zpu HT_ 10 51 (fl4_ 11 2047) ?_
        refine done_ (done_of HT_.out (by kernel_rfl)) ?_
        try go_wp2
        replace HO_5 := Aside0.mk (Kd.R_drew HO_5.out)
        replace HO_8 := Aside0.mk (Kd.R_drew HO_8.out)
        replace HB := Aside0.mk (below_drew1 HB.out)
        have p178 : 0 ≤ (x9_3 : Int) := of_decide_eq_true zas
        have q178 : x9_3 < (x5_2.length : Int) := of_decide_eq_true zas
        obtain ⟨ad178, e178, hx178_0⟩ := Kd.at_int (Kd.R_reads' HO_5.out).2.2 x9_3 p178 q178
        obtain rfl : ad175 = ad178 := (by injection e178)
        replace p178 := eq_true p178
        replace q178 := eq_true q178
        obtain ⟨Ao29, co29, eo29⟩ := Kd.R_slice HO_8.out
        (first | subst eo29 | (injection eo29 with f1_ f2_ f3_; have f4_ := f1_.symm; have f5_ := f3_.symm; clear f1_ f2_ f3_; subst f4_; subst f5_))
        have p179 : 0 ≤ ((ji12) : Int) := of_decide_eq_true zas
        have q179 : (ji12) < (x8_3.length : Int) := of_decide_eq_true zas
        obtain ⟨ad179, e179, hx179_0⟩ := Kd.at_int (Kd.R_reads' HO_8.out).2.2 (ji12) p179 q179
        cases e179
        replace p179 := eq_true p179
        replace q179 := eq_true q179
        refine start_ (n := 17) (S := fun w' => w'.cell? (ad175.add (x9_3).toNat) = some (.int .i64 (rd x5_2 x9_3)) ∧ w'.cell? (ad179.add ((ji12)).toNat) = some (.int .i64 (rd x8_3 (ji12)))) (ds := [14, 15]) (fl4_ 17 0) (by kernel_rfl) rfl rfl ⟨hx178_0, hx179_0⟩ (fun hHeld => ?_); refine with_tabW spec_l05Edits.tab16 spec_l05Edits.bits16 (fun HT_ HW_ => ?_)
        generalize w27.drew = w28 at HO_5 HO_8 HB hx178_0 hx179_0 hHeld ⊢
        refine zpu HT_ 0 54 (fl4_ 17 1) ?_
        refine zpu HT_ 1 55 (fl4_ 17 3) ?_
        refine zpu HT_ 2 56 (fl4_ 17 7) ?_
        refine zpu HT_ 3 57 (fl4_ 17 15) ?_
        refine zpu HT_ 4 58 (fl4_ 17 31) ?_
        refine zpu HT_ 7 61 (fl4_ 17 159) ?_
        refine zpu HT_ 8 62 (fl4_ 17 415) ?_
        refine zpu HT_ 9 63 (fl4_ 17 927) ?_
        refine zpu HT_ 10 64 (fl4_ 17 1951) ?_
        refine take_ (i := 5) (N := some 59) (v := ?_) (a' := ?_) (fl4_ 17 1983) rfl rfl (take_ofW HT_.out HW_.out (by kernel_rfl)) (fun _ _ _ h => h) (Or.inl ⟨by rfl, ?_⟩) hHeld ?_ ?_
        rotate_left
        ·rintro w' ⟨s0, s1⟩
         go_simp
         with_reducible rfl
        rotate_left
        ·simp only [Act.put, List.setIfInBounds_toArray, List.set_cons_zero, List.set_cons_succ, i64_w, i32_w]
         rfl
        refine zpu HT_ 6 60 (fl4_ 17 2047) ?_
        refine take_ (i := 11) (N := some 65) (v := ?_) (a' := ?_) (fl4_ 17 4095) rfl rfl (take_ofW HT_.out HW_.out (by kernel_rfl)) (fun _ _ _ h => h) (Or.inl ⟨by rfl, ?_⟩) hHeld ?_ ?_
        rotate_left
        ·rintro w' ⟨s0, s1⟩
         go_simp
         with_reducible rfl
        rotate_left
        ·simp only [Act.put, List.setIfInBounds_toArray, List.set_cons_zero, List.set_cons_succ, i64_w, i32_w]
         rfl
        refine zpu HT_ 12 66 (fl4_ 17 8191) ?_
        refine zpu HT_ 13 67 (fl4_ 17 16383) ?_
        refine last_ (i := 14) (N := some 68) (fl4_ 17 32767) rfl rfl (one_of HT_.out (by kernel_rfl)) (by decide) (fun K hK => ?_)
        refine value_ (w1 := ?_) (v := ?_) (by rfl) rfl ?_ ?_
        rotate_left 2
        ·go_simp
         constructor
         ·rfl
         ·rfl
        refine hK.out _ _ ?_
        clear hK K
        refine norm_ (a' := ?_) ?_ ?_
        rotate_left
        ·show Act.put _ (some 68) _ = _
         simp only [Act.put, List.setIfInBounds_toArray, List.set_cons_zero, List.set_cons_succ, i64_w, i32_w]
         rfl
        refine last_ (i := 15) (N := some 69) (fl4_ 17 65535) rfl rfl (one_of HT_.out (by kernel_rfl)) (by decide) (fun K hK => ?_)
        refine Kd.R_append_step (Kd.int .i64) (w0 := w) w.heap.size (by rfl) (.tmp 54) (.tmp 68) 22 3 (.int .i64 0) 8 rfl Tryd.underlying22 info3 rfl (by decide) (by omega) (.slice (some ad179) x8_3.length co29) x8_3 ji24 [.int .i64 ji24] (fun k_ => some k_ ≠ (.slice (some ad175) x5_2.length co26 : Value).ownBlock) (fun _ => False) rfl rfl ?aP (fun _ hk => hk.elim) ?aF ?aO ?aB ?aS ?aL ?_
        (case aP => exact rfl)
        (case aB => exact (zh HB))
        (case aF => exact (fun k_ hk => Kd.fresh' (Kd.R_lt (zr HO_5)) k_ hk))
        (case aO => exact (zr HO_8))
        (case aS => exact (below_size (zh HB)))
        (case aL => have := LMc25.out; omega)
        intro v181 w30 ho hb hg hat
        rw [← Ny180.out] at ho
        replace HO_5 := Aside0.mk (Kd.R_after (ok := (fun _ => True)) (Kd.R_mono (zr HO_5) (fun _ hk => ⟨trivial, hk⟩)) hg hat)
        replace HB := Aside0.mk (hb)
        have HO182 := Aside0.mk (ho)
        clear HO_8
        clear ho hb hg hat
        refine hK.out _ _ ?_
        clear hK K
        refine norm_ (a' := ?_) ?_ ?_
        rotate_left
        ·show Act.put _ (some 69) _ = _
         simp only [Act.put, List.setIfInBounds_toArray, List.set_cons_zero, List.set_cons_succ, i64_w, i32_w]
         rfl
        refine zpu HT_ 16 8 (fl4_ 17 131071) ?_
        refine done_ (done_of HT_.out (by kernel_rfl)) ?_
        try go_wp2
        go_roundg k3
        case measure => have := HK1.out; have := HK2.out; have := HK3.out; omega
        case rel => exact ⟨(y180), (wrap64 (x9_3 + 1)), zrs, H', ⟨by have := HK1.out; have := HK2.out; have := HK3.out; omega⟩, ⟨Kd.R_mono (zr HO_5) (fun _ hk => hk.2)⟩, ⟨zr HO182⟩, ⟨zh HB⟩⟩
       rw [if_neg c19] at H
       have c19b0 : ((rd l0 (ji15)) == (rd l1 (ji12))) = false := beq_eq_false_iff_ne.mpr c19
       have c19b1 : ((rd l0 (ji15)) != (rd l1 (ji12))) = true := bne_iff_ne.mpr c19
       by_cases c31 : 0 ≤ x9_3
       rotate_left
       ·rw [if_neg c31] at H
        exact absurd H (by simp)
       rw [if_pos c31] at H
       have c31b0 : decide (0 ≤ x9_3) = true := decide_eq_true c31
       clear c31
       by_cases c32 : x9_3 < (x5_2.length : Int)
       rotate_left
       ·rw [if_neg c32] at H
        exact absurd H (by simp)
       rw [if_pos c32] at H
       have c32b0 : decide (x9_3 < (x5_2.length : Int)) = true := decide_eq_true c32
       clear c32
       by_cases c33 : (ji12) < (x8_3.length : Int)
       rotate_left
       ·rw [if_neg c33] at H
        exact absurd H (by simp)
       rw [if_pos c33] at H
       have c33b0 : decide ((ji12) < (x8_3.length : Int)) = true := decide_eq_true c33
       clear c33
       obtain ⟨ji34, hji34⟩ : ∃ j_ : Int, (mn (wrap64 ((rd x5_2 (ji12)) + 1)) (wrap64 ((rd x5_2 x9_3) + 1))) = j_ := ⟨_, rfl⟩
       replace H : (if x8_3.length < 17592186044416 then (spec_l05Edits.l2 k3 l0 l1 x5_2 x7_2 (x8_3 ++ [mn (ji34) (wrap64 ((rd x8_3 (ji12)) + 1))]) (wrap64 (x9_3 + 1))) else (none)) = some r := by first | (rw [hji34] at H; exact H) | (simp only [hji34] at H ⊢; exact H)
       have hji34_ : (if (wrap64 ((rd x5_2 x9_3) + 1)) < (wrap64 ((rd x5_2 (ji12)) + 1)) then (wrap64 ((rd x5_2 x9_3) + 1)) else (wrap64 ((rd x5_2 (ji12)) + 1))) = ji34 := hji34
       obtain ⟨ji35, hji35⟩ : ∃ j_ : Int, (mn (ji34) (wrap64 ((rd x8_3 (ji12)) + 1))) = j_ := ⟨_, rfl⟩
       replace H : (if x8_3.length < 17592186044416 then (spec_l05Edits.l2 k3 l0 l1 x5_2 x7_2 (x8_3 ++ [ji35]) (wrap64 (x9_3 + 1))) else (none)) = some r := by first | (rw [hji35] at H; exact H) | (simp only [hji35] at H ⊢; exact H)
       have hji35_ : (if (wrap64 ((rd x8_3 (ji12)) + 1)) < (ji34) then (wrap64 ((rd x8_3 (ji12)) + 1)) else (ji34)) = ji35 := hji35
       by_cases c36 : x8_3.length < 17592186044416
       rotate_left
       ·rw [if_neg c36] at H
        exact absurd H (by simp)
       rw [if_pos c36] at H
       have LMc36 := Aside0.mk c36
       clear c36
       obtain ⟨y185, hy185⟩ : ∃ y_ : List Int, y_ = (x8_3 ++ [ji35]) := ⟨_, rfl⟩
       replace H : (spec_l05Edits.l2 k3 l0 l1 x5_2 x7_2 y185 (wrap64 (x9_3 + 1))) = some r := zby hy185 H
       have Ny185 := Aside0.mk hy185
       clear hy185
       have H' := Aside0.mk H
       clear H
       obtain ⟨Ao37, co37, eo37⟩ := Kd.R_slice HO_5.out
       subst eo37
       have p175 : 0 ≤ ((ji12) : Int) := of_decide_eq_true zas
       have q175 : (ji12) < (x5_2.length : Int) := of_decide_eq_true zas
       obtain ⟨ad175, e175, hx175_0⟩ := Kd.at_int (Kd.R_reads' HO_5.out).2.2 (ji12) p175 q175
       cases e175
       replace p175 := eq_true p175
       replace q175 := eq_true q175
       try go_wp2
       replace HO_5 := Aside0.mk (Kd.R_drew HO_5.out)
       replace HO_8 := Aside0.mk (Kd.R_drew HO_8.out)
       replace HB := Aside0.mk (below_drew1 HB.out)
       have p176 : 0 ≤ ((ji15) : Int) := of_decide_eq_true zas
       have q176 : (ji15) < (l0.length : Int) := of_decide_eq_true zas
       obtain ⟨ad176, e176, hx176_0⟩ := Kd.at_int HR0.out (ji15) p176 q176
       have hw176_0 := hx176_0
       cases e176
       replace hx176_0 := zx HB hx176_0
       replace p176 := eq_true p176
       replace q176 := eq_true q176
       have p177 : 0 ≤ ((ji12) : Int) := of_decide_eq_true zas
       have q177 : (ji12) < (l1.length : Int) := of_decide_eq_true zas
       obtain ⟨ad177, e177, hx177_0⟩ := Kd.at_int HR1.out (ji12) p177 q177
       have hw177_0 := hx177_0
       cases e177
       replace hx177_0 := zx HB hx177_0
       replace p177 := eq_true p177
       replace q177 := eq_true q177
       refine start_ (n := 11) (S := fun w' => w'.cell? (ad176.add ((ji15)).toNat) = some (.int .i64 (rd l0 (ji15))) ∧ w'.cell? (ad177.add ((ji12)).toNat) = some (.int .i64 (rd l1 (ji12)))) (ds := []) (fl4_ 11 0) (by kernel_rfl) rfl rfl ⟨(zxx HB hw176_0), (zxx HB hw177_0)⟩ (fun hHeld => ?_); refine with_tabW spec_l05Edits.tab14 spec_l05Edits.bits14 (fun HT_ HW_ => ?_)
       generalize wr.drew = w38 at HO_5 HO_8 HB hx176_0 hx177_0 hHeld ⊢
       refine zpu HT_ 0 41 (fl4_ 11 1) ?_
       refine zpu HT_ 1 42 (fl4_ 11 3) ?_
       refine zpu HT_ 2 43 (fl4_ 11 7) ?_
       refine zpu HT_ 3 44 (fl4_ 11 15) ?_
       refine zpu HT_ 5 46 (fl4_ 11 47) ?_
       refine zpu HT_ 6 47 (fl4_ 11 111) ?_
       refine zpu HT_ 7 48 (fl4_ 11 239) ?_
       refine zpu HT_ 8 49 (fl4_ 11 495) ?_
       refine take_ (i := 4) (N := some 45) (v := ?_) (a' := ?_) (fl4_ 11 511) rfl rfl (take_ofW HT_.out HW_.out (by kernel_rfl)) (fun _ _ _ h => h) (Or.inl ⟨by rfl, ?_⟩) hHeld ?_ ?_
       rotate_left
       ·rintro w' ⟨s0, s1⟩
        go_simp
        with_reducible rfl
       rotate_left
       ·simp only [Act.put, List.setIfInBounds_toArray, List.set_cons_zero, List.set_cons_succ, i64_w, i32_w]
        rfl
       refine take_ (i := 9) (N := some 50) (v := ?_) (a' := ?_) (fl4_ 11 1023) rfl rfl (take_ofW HT_.out HW_.out (by kernel_rfl)) (fun _ _ _ h => h) (Or.inl ⟨by rfl, ?_⟩) hHeld ?_ ?_
       rotate_left
       ·rintro w' ⟨s0, s1⟩
        go_simp
        with_reducible rfl
       rotate_left
       ·simp only [Act.put, List.setIfInBounds_toArray, List.set_cons_zero, List.set_cons_succ, i64_w, i32_w]
        rfl
       refine zpu HT_ 10 51 (fl4_ 11 2047) ?_
       refine done_ (done_of HT_.out (by kernel_rfl)) ?_
       try go_wp2
       replace HO_5 := Aside0.mk (Kd.R_drew HO_5.out)
       replace HO_8 := Aside0.mk (Kd.R_drew HO_8.out)
       replace HB := Aside0.mk (below_drew1 HB.out)
       have p183 : 0 ≤ (x9_3 : Int) := of_decide_eq_true zas
       have q183 : x9_3 < (x5_2.length : Int) := of_decide_eq_true zas
       obtain ⟨ad183, e183, hx183_0⟩ := Kd.at_int (Kd.R_reads' HO_5.out).2.2 x9_3 p183 q183
       obtain rfl : ad175 = ad183 := (by injection e183)
       replace p183 := eq_true p183
       replace q183 := eq_true q183
       obtain ⟨Ao40, co40, eo40⟩ := Kd.R_slice HO_8.out
       (first | subst eo40 | (injection eo40 with f1_ f2_ f3_; have f4_ := f1_.symm; have f5_ := f3_.symm; clear f1_ f2_ f3_; subst f4_; subst f5_))
       have p184 : 0 ≤ ((ji12) : Int) := of_decide_eq_true zas
       have q184 : (ji12) < (x8_3.length : Int) := of_decide_eq_true zas
       obtain ⟨ad184, e184, hx184_0⟩ := Kd.at_int (Kd.R_reads' HO_8.out).2.2 (ji12) p184 q184
       cases e184
       replace p184 := eq_true p184
       replace q184 := eq_true q184
       refine start_ (n := 17) (S := fun w' => w'.cell? (ad175.add (x9_3).toNat) = some (.int .i64 (rd x5_2 x9_3)) ∧ w'.cell? (ad184.add ((ji12)).toNat) = some (.int .i64 (rd x8_3 (ji12)))) (ds := [14, 15]) (fl4_ 17 0) (by kernel_rfl) rfl rfl ⟨hx183_0, hx184_0⟩ (fun hHeld => ?_); refine with_tabW spec_l05Edits.tab16 spec_l05Edits.bits16 (fun HT_ HW_ => ?_)
       generalize w38.drew = w39 at HO_5 HO_8 HB hx183_0 hx184_0 hHeld ⊢
       refine zpu HT_ 0 54 (fl4_ 17 1) ?_
       refine zpu HT_ 1 55 (fl4_ 17 3) ?_
       refine zpu HT_ 2 56 (fl4_ 17 7) ?_
       refine zpu HT_ 3 57 (fl4_ 17 15) ?_
       refine zpu HT_ 4 58 (fl4_ 17 31) ?_
       refine zpu HT_ 7 61 (fl4_ 17 159) ?_
       refine zpu HT_ 8 62 (fl4_ 17 415) ?_
       refine zpu HT_ 9 63 (fl4_ 17 927) ?_
       refine zpu HT_ 10 64 (fl4_ 17 1951) ?_
       refine take_ (i := 5) (N := some 59) (v := ?_) (a' := ?_) (fl4_ 17 1983) rfl rfl (take_ofW HT_.out HW_.out (by kernel_rfl)) (fun _ _ _ h => h) (Or.inl ⟨by rfl, ?_⟩) hHeld ?_ ?_
       rotate_left
       ·rintro w' ⟨s0, s1⟩
        go_simp
        with_reducible rfl
       rotate_left
       ·simp only [Act.put, List.setIfInBounds_toArray, List.set_cons_zero, List.set_cons_succ, i64_w, i32_w]
        rfl
       refine zpu HT_ 6 60 (fl4_ 17 2047) ?_
       refine take_ (i := 11) (N := some 65) (v := ?_) (a' := ?_) (fl4_ 17 4095) rfl rfl (take_ofW HT_.out HW_.out (by kernel_rfl)) (fun _ _ _ h => h) (Or.inl ⟨by rfl, ?_⟩) hHeld ?_ ?_
       rotate_left
       ·rintro w' ⟨s0, s1⟩
        go_simp
        with_reducible rfl
       rotate_left
       ·simp only [Act.put, List.setIfInBounds_toArray, List.set_cons_zero, List.set_cons_succ, i64_w, i32_w]
        rfl
       refine zpu HT_ 12 66 (fl4_ 17 8191) ?_
       refine zpu HT_ 13 67 (fl4_ 17 16383) ?_
       refine last_ (i := 14) (N := some 68) (fl4_ 17 32767) rfl rfl (one_of HT_.out (by kernel_rfl)) (by decide) (fun K hK => ?_)
       refine value_ (w1 := ?_) (v := ?_) (by rfl) rfl ?_ ?_
       rotate_left 2
       ·go_simp
        constructor
        ·rfl
        ·rfl
       refine hK.out _ _ ?_
       clear hK K
       refine norm_ (a' := ?_) ?_ ?_
       rotate_left
       ·show Act.put _ (some 68) _ = _
        simp only [Act.put, List.setIfInBounds_toArray, List.set_cons_zero, List.set_cons_succ, i64_w, i32_w]
        rfl
       refine last_ (i := 15) (N := some 69) (fl4_ 17 65535) rfl rfl (one_of HT_.out (by kernel_rfl)) (by decide) (fun K hK => ?_)
       refine Kd.R_append_step (Kd.int .i64) (w0 := w) w.heap.size (by rfl) (.tmp 54) (.tmp 68) 22 3 (.int .i64 0) 8 rfl Tryd.underlying22 info3 rfl (by decide) (by omega) (.slice (some ad184) x8_3.length co40) x8_3 ji35 [.int .i64 ji35] (fun k_ => some k_ ≠ (.slice (some ad175) x5_2.length co37 : Value).ownBlock) (fun _ => False) rfl rfl ?aP (fun _ hk => hk.elim) ?aF ?aO ?aB ?aS ?aL ?_
       (case aP => exact rfl)
       (case aB => exact (zh HB))
       (case aF => exact (fun k_ hk => Kd.fresh' (Kd.R_lt (zr HO_5)) k_ hk))
       (case aO => exact (zr HO_8))
       (case aS => exact (below_size (zh HB)))
       (case aL => have := LMc36.out; omega)
       intro v186 w41 ho hb hg hat
       rw [← Ny185.out] at ho
       replace HO_5 := Aside0.mk (Kd.R_after (ok := (fun _ => True)) (Kd.R_mono (zr HO_5) (fun _ hk => ⟨trivial, hk⟩)) hg hat)
       replace HB := Aside0.mk (hb)
       have HO187 := Aside0.mk (ho)
       clear HO_8
       clear ho hb hg hat
       refine hK.out _ _ ?_
       clear hK K
       refine norm_ (a' := ?_) ?_ ?_
       rotate_left
       ·show Act.put _ (some 69) _ = _
        simp only [Act.put, List.setIfInBounds_toArray, List.set_cons_zero, List.set_cons_succ, i64_w, i32_w]
        rfl
       refine zpu HT_ 16 8 (fl4_ 17 131071) ?_
       refine done_ (done_of HT_.out (by kernel_rfl)) ?_
       try go_wp2
       go_roundg k3
       case measure => have := HK1.out; have := HK2.out; have := HK3.out; omega
       case rel => exact ⟨(y185), (wrap64 (x9_3 + 1)), zrs, H', ⟨by have := HK1.out; have := HK2.out; have := HK3.out; omega⟩, ⟨Kd.R_mono (zr HO_5) (fun _ hk => hk.2)⟩, ⟨zr HO187⟩, ⟨zh HB⟩⟩
end Go.Proofs.YtcokeankiedfcaaDoor.XFnSuggest
