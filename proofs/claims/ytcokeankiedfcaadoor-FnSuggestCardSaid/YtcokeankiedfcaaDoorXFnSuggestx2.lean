-- A printed text of this session (wip/x/xprint.py).
import Derived.Test.YtcokeankiedfcaaDoorXFnSuggestx0
namespace Go.Proofs.YtcokeankiedfcaaDoor.XFnSuggest
open Go.RowKit Go.Proofs.YtcokeankiedfcaaDoorW.PrintWords Go.Proofs.YtcokeankiedfcaaDoorW.PrintLast Go.Proofs.YtcokeankiedfcaaDoorW.PrintMore
attribute [local go_sem] max2_int min2_int max_two min_two max_three min_three max_four min_four   -- for this text's walks alone
set_option linter.unusedVariables false
set_option linter.unusedSimpArgs false
def fl2_ (n m : Nat) : Array Bool := ((List.range n).map fun i => m.testBit i).toArray

/-! ### impl_edits: function 57 -/
mutual
def impl_edits.l0 : Nat → List Int → List Int → List Int → Int → Int → Option (Int)
 | 0, _, _, _, _, _ => none
 | k + 1, x0, x1, x5, x16, x17 => if x17 < x16 then (if 0 ≤ x17 then (if x17 < (x5.length : Int) then (impl_edits.l0 k x0 x1 (x5.set (x17 : Int).toNat x17) x16 (wrap64 (x17 + 1))) else (none)) else (none)) else (impl_edits.l1 k x0 x1 x5 (x0.length : Int) 0)
def impl_edits.l1 : Nat → List Int → List Int → List Int → Int → Int → Option (Int)
 | 0, _, _, _, _, _ => none
 | k + 1, x0, x1, x5, x26, x27 => if x27 < x26 then (if 0 ≤ (wrap64 ((x1.length : Int) + 1)) then (if (wrap64 ((x1.length : Int) + 1) : Int).toNat ≤ 35184372088832 then ((some (List.replicate (wrap64 ((x1.length : Int) + 1) : Int).toNat 0 : List Int)).bind fun y106 => (if 0 < (y106.length : Int) then (impl_edits.l2 k x0 x1 x5 x27 (y106.set (0 : Int).toNat (wrap64 (x27 + 1))) x26 x27 (x1.length : Int) 0) else (none))) else (none)) else (none)) else (if 0 ≤ (x1.length : Int) then (if (x1.length : Int) < (x5.length : Int) then (some (rd x5 (x1.length : Int))) else (none)) else (none))
def impl_edits.l2 : Nat → List Int → List Int → List Int → Int → List Int → Int → Int → Int → Int → Option (Int)
 | 0, _, _, _, _, _, _, _, _, _ => none
 | k + 1, x0, x1, x5, x7, x8, x26, x27, x39, x40 => if x40 < x39 then (if 0 ≤ x40 then (if x40 < (x5.length : Int) then (if 0 ≤ x7 then (if x7 < (x0.length : Int) then (if x40 < (x1.length : Int) then (if (rd x0 x7) = (rd x1 x40) then (if 0 ≤ (wrap64 (x40 + 1)) then (if (wrap64 (x40 + 1)) < (x5.length : Int) then (if x40 < (x8.length : Int) then (if (wrap64 (x40 + 1)) < (x8.length : Int) then (impl_edits.l2 k x0 x1 x5 x7 (x8.set ((wrap64 (x40 + 1)) : Int).toNat (mn (mn (rd x5 x40) (wrap64 ((rd x5 (wrap64 (x40 + 1))) + 1))) (wrap64 ((rd x8 x40) + 1)))) x26 x27 x39 (wrap64 (x40 + 1))) else (none)) else (none)) else (none)) else (none)) else (if 0 ≤ (wrap64 (x40 + 1)) then (if (wrap64 (x40 + 1)) < (x5.length : Int) then (if x40 < (x8.length : Int) then (if (wrap64 (x40 + 1)) < (x8.length : Int) then (impl_edits.l2 k x0 x1 x5 x7 (x8.set ((wrap64 (x40 + 1)) : Int).toNat (mn (mn (wrap64 ((rd x5 x40) + 1)) (wrap64 ((rd x5 (wrap64 (x40 + 1))) + 1))) (wrap64 ((rd x8 x40) + 1)))) x26 x27 x39 (wrap64 (x40 + 1))) else (none)) else (none)) else (none)) else (none))) else (none)) else (none)) else (none)) else (none)) else (none)) else (impl_edits.l1 k x0 x1 x8 x26 (wrap64 (x27 + 1)))
end
def impl_edits.f (k : Nat) (l0 : List Int) (l1 : List Int) : Option (Int) := if 0 ≤ (wrap64 ((l1.length : Int) + 1)) then (if (wrap64 ((l1.length : Int) + 1) : Int).toNat ≤ 35184372088832 then ((some (List.replicate (wrap64 ((l1.length : Int) + 1) : Int).toNat 0 : List Int)).bind fun y101 => (impl_edits.l0 k l0 l1 y101 (y101.length : Int) 0)) else (none)) else (none)
theorem impl_edits.mono_l : ∀ k, (∀ y0 y1 y2 y3 y4, LeO (impl_edits.l0 k y0 y1 y2 y3 y4) (impl_edits.l0 (k + 1) y0 y1 y2 y3 y4)) ∧ (∀ y0 y1 y2 y3 y4, LeO (impl_edits.l1 k y0 y1 y2 y3 y4) (impl_edits.l1 (k + 1) y0 y1 y2 y3 y4)) ∧ (∀ y0 y1 y2 y3 y4 y5 y6 y7 y8, LeO (impl_edits.l2 k y0 y1 y2 y3 y4 y5 y6 y7 y8) (impl_edits.l2 (k + 1) y0 y1 y2 y3 y4 y5 y6 y7 y8))
 | 0 => ⟨fun _ _ _ _ _ r h => by simp [impl_edits.l0] at h, fun _ _ _ _ _ r h => by simp [impl_edits.l1] at h, fun _ _ _ _ _ _ _ _ _ r h => by simp [impl_edits.l2] at h⟩
 | k + 1 => by
  obtain ⟨ih0, ih1, ih2⟩ := impl_edits.mono_l k
  refine ⟨?_, ?_, ?_⟩
  all_goals intros
  all_goals first | unfold impl_edits.l0 | unfold impl_edits.l1 | unfold impl_edits.l2
  all_goals
   repeat' first
   | (with_reducible exact ih0 _ _ _ _ _)
   | (with_reducible exact ih1 _ _ _ _ _)
   | (with_reducible exact ih2 _ _ _ _ _ _ _ _ _)
   | (with_reducible exact LeO.refl _)
   | (with_reducible exact LeO.none _)
   | (with_reducible refine LeO.ite ?_ ?_)
   | (with_reducible refine LeO.bind ?_ (fun _ => ?_))
theorem impl_edits.mono : ∀ a0 a1 k, LeO (impl_edits.f k a0 a1) (impl_edits.f (k + 1) a0 a1) := by
 intro a0 a1 k
 obtain ⟨ih0, ih1, ih2⟩ := impl_edits.mono_l k
 unfold impl_edits.f
 repeat' first
  | (with_reducible exact ih0 _ _ _ _ _)
  | (with_reducible exact ih1 _ _ _ _ _)
  | (with_reducible exact ih2 _ _ _ _ _ _ _ _ _)
  | (with_reducible exact LeO.refl _)
  | (with_reducible exact LeO.none _)
  | (with_reducible refine LeO.ite ?_ ?_)
  | (with_reducible refine LeO.bind ?_ (fun _ => ?_))
def impl_edits.T16 : Bool × List (List Nat × List Nat) := (true, [([], []), ([], []), ([0, 1], [0, 1]), ([2], [2]), ([], []), ([], []), ([4, 5], [4, 5]), ([6], [6]), ([3, 7], [3, 7])])
def impl_edits.B16 : List Nat := [0, 0, 3, 7, 0, 0, 48, 112, 255]
theorem impl_edits.tab16 : rtab .any (opsOf Tryd.f57 16) = impl_edits.T16 := by kernel_rfl
theorem impl_edits.bits16 : waitsOk impl_edits.T16.2 impl_edits.B16 = true := by kernel_rfl
def impl_edits.T18 : Bool × List (List Nat × List Nat) := (true, [([], []), ([], []), ([1], [1]), ([], []), ([], []), ([], []), ([5], [5]), ([4, 6], [4, 6]), ([7], [7]), ([8], [8]), ([], []), ([], []), ([10, 11], [10, 11]), ([12], [12]), ([13], [13]), ([3, 9, 14], [3, 9, 14]), ([0, 2, 0, 1, 2, 3, 4, 5, 6, 7, 8, 9, 10, 11, 12, 13, 14, 15], [0, 2]), ([16, 15, 0, 1, 2, 3, 4, 5, 6, 7, 8, 9, 10, 11, 12, 13, 14, 15], [15, 16])])
def impl_edits.B18 : List Nat := [0, 0, 2, 0, 0, 0, 32, 112, 240, 496, 0, 0, 3072, 7168, 15360, 32760, 65535, 131071]
theorem impl_edits.tab18 : rtab .any (opsOf Tryd.f57 18) = impl_edits.T18 := by kernel_rfl
theorem impl_edits.bits18 : waitsOk impl_edits.T18.2 impl_edits.B18 = true := by kernel_rfl
set_option maxHeartbeats 8000000 in
set_option maxRecDepth 100000 in
theorem impl_edits.calls (k : Nat) (A0 : Option Addr) (c0 : Nat) (l0 : List Int) (A1 : Option Addr) (c1 : Nat) (l1 : List Int) (r : Int) (w : World) (hr0 : Kd.C (Kd.int .i64) w A0 l0.length l0) (hc0 : l0.length ≤ c0) (hr1 : Kd.C (Kd.int .i64) w A1 l1.length l1) (hc1 : l1.length ≤ c1) (h : impl_edits.f k l0 l1 = some r) :
 Calls Tryd.prog 57 #[.slice A0 l0.length c0, .slice A1 l1.length c1] w fun e w' => e = .returned (.int .i64 r) ∧ Below w.heap.size w w' := by
 have HR0 := Aside0.mk hr0
 have HC0 := Aside0.mk hc0
 clear hr0 hc0
 have HR1 := Aside0.mk hr1
 have HC1 := Aside0.mk hc1
 clear hr1 hc1
 have HB := Aside0.mk (Below.refl w.heap.size w)
 have H := h
 unfold impl_edits.f at H
 clear h
 obtain ⟨ji3, hji3⟩ : ∃ j_ : Int, (wrap64 ((l1.length : Int) + 1)) = j_ := ⟨_, rfl⟩
 replace H : (if 0 ≤ (ji3) then (if (ji3 : Int).toNat ≤ 35184372088832 then ((some (List.replicate (ji3 : Int).toNat 0 : List Int)).bind fun y101 => (impl_edits.l0 k l0 l1 y101 (y101.length : Int) 0)) else (none)) else (none)) = some r := by first | (rw [hji3] at H; exact H) | (simp only [hji3] at H ⊢; exact H)
 have hji3w : (IntKind.i64.wrap ((l1.length : Int) + 1)) = ji3 := (i64_w _).trans hji3
 by_cases c4 : 0 ≤ (ji3)
 rotate_left
 ·rw [if_neg c4] at H
  exact absurd H (by simp)

 rw [if_pos c4] at H
 have c4b0 := eq_true c4
 have c4b1 : decide (0 ≤ (ji3)) = true := decide_eq_true c4
 clear c4
 by_cases c5 : (ji3 : Int).toNat ≤ 35184372088832
 rotate_left
 ·rw [if_neg c5] at H
  exact absurd H (by simp)
 rw [if_pos c5] at H
 have c5b0 := eq_true c5
 have c5b1 : decide ((ji3 : Int).toNat ≤ 35184372088832) = true := decide_eq_true c5
 clear c5
 obtain ⟨y101, hy101⟩ : ∃ y_ : List Int, y_ = (List.replicate (ji3 : Int).toNat 0) := ⟨_, rfl⟩
 replace H : (impl_edits.l0 k l0 l1 y101 (y101.length : Int) 0) = some r := zby hy101 H
 have Ny101 := Aside0.mk hy101
 clear hy101
 have H' := Aside0.mk H
 clear H
 go_enter Tryd.func57, Tryd.ntmps57
 go_wp2_with (first | ((with_reducible refine gate_dst (N := 14) rfl ?_); refine Kd.R_make (Kd.int .i64) _ 3 rfl (N := 14) rfl 22 _ _ rfl ji3 rfl rfl Tryd.underlying22 (.int .i64 0) 8 info3 rfl (by decide) (by omega) 0 (ok := fun _ => True) (okp := fun _ => True) rfl (fun _ hk => hk) trivial (of_decide_eq_true zas) (Nat.le_trans (Nat.mul_le_mul_right _ (of_decide_eq_true zas : ji3.toNat ≤ 35184372088832)) (by omega)) (Below.refl _ _) (Nat.le_refl _) ?_; intro v102 w6 ho7 hb hg_ hnew_; clear hg_ hnew_; (first | rw [← Ny101.out] at ho7 | (simp only [Int.reduceToNat] at ho7; rw [← Ny101.out] at ho7)); have HO103 := Aside0.mk (Kd.R_lower ho7 (below_size (zh HB))); replace HB := Aside0.mk (below_step (zh HB) hb); clear hb ho7; obtain ⟨Ao8, co8, eo8⟩ := Kd.R_slice HO103.out; subst eo8))
 go_loopg [17] k (fun kq v17 w' => ∃ (x5_1 : List Int) (x17_1 : Int), v17 = .int .i64 x17_1 ∧ Aside0 (impl_edits.l0 kq l0 l1 x5_1 (y101.length : Int) x17_1 = some r) ∧ Aside0 (kq ≤ k) ∧ Aside0 (Kd.R (Kd.int .i64) 3 w' w.heap.size (fun _ => True) (.slice Ao8 y101.length co8) x5_1) ∧ Aside0 (Below w.heap.size w w'))
 case atStart => exact ⟨(y101), (0), zrs, H', ⟨Nat.le_refl _⟩, ⟨zr HO103⟩, ⟨zh HB⟩⟩
 case round =>
  clear H'
  try clear c1
  try clear c4
  try clear c4b0
  try clear c4b1
  try clear c5
  try clear c5b0
  try clear c5b1
  obtain ⟨x5_1, x17_1, rfl, HA, HK1, HO_5, HB⟩ := hrel
  have hl5_1 := (Kd.R_reads' HO_5.out).1
  rw [hl5_1] at HO_5
  (try simp only [hl5_1])
  cases gk with
  | zero => exact absurd HA.out (by simp [impl_edits.l0])
  | succ k1 =>
   have H := HA.out
   clear HA
   simp only [impl_edits.l0] at H
   by_cases c9 : x17_1 < (y101.length : Int)
   ·rw [if_pos c9] at H
    have c9b0 : decide (x17_1 < (y101.length : Int)) = true := decide_eq_true c9
    (try have c9b0l : decide (x17_1 < (x5_1.length : Int)) = true := by rw [← hl5_1]; exact c9b0)
    clear c9
    by_cases c10 : 0 ≤ x17_1
    rotate_left
    ·rw [if_neg c10] at H
     exact absurd H (by simp)
    rw [if_pos c10] at H
    have c10b0 : decide (0 ≤ x17_1) = true := decide_eq_true c10
    clear c10
    by_cases c11 : x17_1 < (x5_1.length : Int)
    rotate_left
    ·rw [if_neg c11] at H
     exact absurd H (by simp)
    rw [if_pos c11] at H
    have c11b0 : decide (x17_1 < (x5_1.length : Int)) = true := decide_eq_true c11
    clear c11
    obtain ⟨y104, hy104⟩ : ∃ y_ : List Int, y_ = (x5_1.set (x17_1 : Int).toNat x17_1) := ⟨_, rfl⟩
    replace H : (impl_edits.l0 k1 l0 l1 y104 (y101.length : Int) (wrap64 (x17_1 + 1))) = some r := zby hy104 H
    have Ny104 := Aside0.mk hy104
    clear hy104
    have H' := Aside0.mk H
    clear H
    have p12 : 0 ≤ (x17_1 : Int) := of_decide_eq_true zas
    have q12 : (x17_1 : Int) < ((x5_1.length : Int) : Int) := of_decide_eq_true zas
    obtain ⟨go12, co12, eo12, gb12, gl12, cl12, HG12⟩ := Kd.R_form HO_5.out (by omega)
    (first | cases eo12 | (injection eo12 with ea_ en_ ec_; (first | subst ea_ | (injection ea_ with ea_; subst ea_)); subst ec_; clear en_))
    have GB12 := Aside0.mk gb12
    have GG12 := Aside0.mk HG12
    clear gb12 gl12 HG12
    obtain ⟨hx12_0, hf12_0⟩ := Kd.R_celln 0 HO_5.out (x17_1 : Int) p12 q12
    replace p12 := eq_true p12
    replace q12 := eq_true q12
    have HP13 := Kd.R_putg HO_5.out (x17_1 : Int) x17_1
    go_wp2_with (first | ((with_reducible refine gate_store (t := 3) (p := 23) rfl ?_); refine store_event (t := 3) (p := 23) (v := ?vo_w14) (w1 := (wr.setCell ⟨go12, (x17_1 : Int).toNat, none⟩ (.int .i64 x17_1))) ?hg ?ho ?hn ?hr ?_; (case ho => rfl); (case hg => rfl); (case hn => rfl); (case hr => first | (go_simp; done) | (go_simp; rfl)); intro w14 hw; have hg : wr.grownBy w14 (some go12) := (by rw [hw]; exact HP13.2); have hp_ : Kd.R (Kd.int .i64) 3 w14 w.heap.size (fun _ => True) (.slice (some ⟨go12, 0, none⟩) x5_1.length co8) y104 := (by rw [hw, Ny104.out]; exact HP13.1); clear HP13; replace HO_5 := Aside0.mk (hp_); replace HB := Aside0.mk ((by rw [hw]; exact below_set (HB.out) GB12.out : Below w.heap.size w w14)); clear hg hw hp_))
    (try simp only [← hl5_1])
    go_roundg k1
    case measure => have := HK1.out; omega
    case rel => exact ⟨(y104), (wrap64 (x17_1 + 1)), zrs, H', ⟨by have := HK1.out; omega⟩, ⟨by (try simp only [hl5_1]); (with_reducible repeat (first | apply Kd.R_alloc | apply Kd.R_drewN | apply Kd.R_drew)); exact HO_5.out⟩, ⟨zh HB⟩⟩
   rw [if_neg c9] at H
   have c9b0 : decide (x17_1 < (y101.length : Int)) = false := decide_eq_false c9
   (try have c9b0l : decide (x17_1 < (x5_1.length : Int)) = false := by rw [← hl5_1]; exact c9b0)
   clear c9
   have H' := Aside0.mk H
   clear H
   go_wp2
   go_loopg [5, 27] k1 (fun kq v5 v27 w' => ∃ (x5_2 : List Int) (x27_2 : Int), v27 = .int .i64 x27_2 ∧ Aside0 (impl_edits.l1 kq l0 l1 x5_2 (l0.length : Int) x27_2 = some r) ∧ Aside0 (kq ≤ k1) ∧ Aside0 (Kd.R (Kd.int .i64) 3 w' w.heap.size (fun _ => True) v5 x5_2) ∧ Aside0 (Below w.heap.size w w'))
   case atStart => exact ⟨(x5_1), (0), zrs, H', ⟨Nat.le_refl _⟩, ⟨by (try simp only [hl5_1]); (with_reducible repeat (first | apply Kd.R_alloc | apply Kd.R_drewN | apply Kd.R_drew)); exact HO_5.out⟩, ⟨zh HB⟩⟩
   case round =>
    clear H'
    try clear c1
    try clear c4
    try clear c4b0
    try clear c4b1
    try clear c5
    try clear c5b0
    try clear c5b1
    try clear c9
    try clear c9b0
    obtain ⟨x5_2, x27_2, rfl, HA, HK2, HO_5, HB⟩ := hrel
    cases gk with
    | zero => exact absurd HA.out (by simp [impl_edits.l1])
    | succ k2 =>
     have H := HA.out
     clear HA
     simp only [impl_edits.l1] at H
     by_cases c15 : x27_2 < (l0.length : Int)
     rotate_left
     ·rw [if_neg c15] at H
      have c15b0 : decide (x27_2 < (l0.length : Int)) = false := decide_eq_false c15
      clear c15
      by_cases c56 : 0 ≤ (l1.length : Int)
      rotate_left
      ·rw [if_neg c56] at H
       exact absurd H (by simp)
      rw [if_pos c56] at H
      have c56b0 : decide (0 ≤ (l1.length : Int)) = true := decide_eq_true c56
      have c56b1 : decide (0 ≤ l1.length) = true := decide_eq_true (by omega)
      clear c56
      by_cases c57 : (l1.length : Int) < (x5_2.length : Int)
      rotate_left
      ·rw [if_neg c57] at H
       exact absurd H (by simp)
      rw [if_pos c57] at H
      have c57b0 : decide ((l1.length : Int) < (x5_2.length : Int)) = true := decide_eq_true c57
      have c57b1 : decide (l1.length < x5_2.length) = true := decide_eq_true (Int.ofNat_lt.mp c57)
      clear c57
      obtain rfl := Option.some.inj H
      obtain ⟨Ao58, co58, eo58⟩ := Kd.R_slice HO_5.out
      subst eo58
      have p105 : 0 ≤ ((l1.length : Int) : Int) := of_decide_eq_true zas
      have q105 : (l1.length : Int) < (x5_2.length : Int) := of_decide_eq_true zas
      obtain ⟨ad105, e105, hx105_0⟩ := Kd.at_int (Kd.R_reads' HO_5.out).2.2 (l1.length : Int) p105 q105
      cases e105
      (try simp only [Go.IntWalk.toNatUp] at hx105_0)
      (try simp only [hl5_1] at p105)
      (try simp only [hl5_1] at q105)
      (try simp only [hl5_1] at hx105_0)
      replace p105 := eq_true p105
      replace q105 := eq_true q105
      go_wp2
      go_ret
      exact ⟨by first | rfl | (simp [errW_none, errW_some] <;> rfl) | (simp only [← hji3]; first | rfl | (simp [errW_none, errW_some] <;> rfl)) | (simp [*, errW_none, errW_some] <;> rfl), zh HB⟩
     rw [if_pos c15] at H
     have c15b0 : decide (x27_2 < (l0.length : Int)) = true := decide_eq_true c15
     clear c15
     obtain ⟨ji16, hji16⟩ : ∃ j_ : Int, (wrap64 ((l1.length : Int) + 1)) = j_ := ⟨_, rfl⟩
     replace H : (if 0 ≤ (ji16) then (if (ji16 : Int).toNat ≤ 35184372088832 then ((some (List.replicate (ji16 : Int).toNat 0 : List Int)).bind fun y106 => (if 0 < (y106.length : Int) then (impl_edits.l2 k2 l0 l1 x5_2 x27_2 (y106.set (0 : Int).toNat (wrap64 (x27_2 + 1))) (l0.length : Int) x27_2 (l1.length : Int) 0) else (none))) else (none)) else (none)) = some r := by first | (rw [hji16] at H; exact H) | (simp only [hji16] at H ⊢; exact H)
     have hji16w : (IntKind.i64.wrap ((l1.length : Int) + 1)) = ji16 := (i64_w _).trans hji16
     obtain rfl : ji16 = ji3 := hji16.symm.trans hji3
     by_cases c17 : 0 ≤ (ji16)
     rotate_left
     ·rw [if_neg c17] at H
      exact absurd H (by simp)
     rw [if_pos c17] at H
     have c17b0 := eq_true c17
     have c17b1 : decide (0 ≤ (ji16)) = true := decide_eq_true c17
     clear c17
     by_cases c18 : (ji16 : Int).toNat ≤ 35184372088832
     rotate_left
     ·rw [if_neg c18] at H
      exact absurd H (by simp)
     rw [if_pos c18] at H
     have c18b0 := eq_true c18
     have c18b1 : decide ((ji16 : Int).toNat ≤ 35184372088832) = true := decide_eq_true c18
     clear c18
     obtain ⟨y106, hy106⟩ : ∃ y_ : List Int, y_ = (List.replicate (ji16 : Int).toNat 0) := ⟨_, rfl⟩
     replace H : (if 0 < (y106.length : Int) then (impl_edits.l2 k2 l0 l1 x5_2 x27_2 (y106.set (0 : Int).toNat (wrap64 (x27_2 + 1))) (l0.length : Int) x27_2 (l1.length : Int) 0) else (none)) = some r := zby hy106 H
     have Ny106 := Aside0.mk hy106
     clear hy106
     by_cases c19 : 0 < (y106.length : Int)
     rotate_left
     ·rw [if_neg c19] at H
      exact absurd H (by simp)
     rw [if_pos c19] at H
     have c19b0 : decide (0 < (y106.length : Int)) = true := decide_eq_true c19
     (try have c19b0l : decide (0 < (x5_1.length : Int)) = true := by rw [← hl5_1]; exact c19b0)
     have c19b1 : decide (0 < y106.length) = true := decide_eq_true (by omega)
     clear c19
     obtain ⟨y109, hy109⟩ : ∃ y_ : List Int, y_ = (y106.set (0 : Int).toNat (wrap64 (x27_2 + 1))) := ⟨_, rfl⟩
     replace H : (impl_edits.l2 k2 l0 l1 x5_2 x27_2 y109 (l0.length : Int) x27_2 (l1.length : Int) 0) = some r := zby hy109 H
     have Ny109 := Aside0.mk hy109
     clear hy109
     have H' := Aside0.mk H
     clear H
     go_wp2_with (first | ((with_reducible refine gate_dst (N := 33) rfl ?_); refine Kd.R_make (Kd.int .i64) _ 3 rfl (N := 33) rfl 22 _ _ rfl ji16 rfl rfl Tryd.underlying22 (.int .i64 0) 8 info3 rfl (by decide) (by omega) 0 (ok := fun _ => True) (okp := fun _ => True) rfl (fun _ hk => hk) trivial (of_decide_eq_true zas) (Nat.le_trans (Nat.mul_le_mul_right _ (of_decide_eq_true zas : ji16.toNat ≤ 35184372088832)) (by omega)) (Below.refl _ _) (Nat.le_refl _) ?_; intro v107 w21 ho22 hb hg_ hnew_; clear hg_ hnew_; (first | rw [← Ny106.out] at ho22 | (simp only [Int.reduceToNat] at ho22; rw [← Ny106.out] at ho22)); have HO108 := Aside0.mk (Kd.R_lower (Kd.R_new' ho22 (Kd.R_lt (zr HO_5))) (below_size (zh HB))); replace HO_5 := Aside0.mk (Kd.R_elder' (zr HO_5) (Kd.R_base ho22) hb); replace HB := Aside0.mk (below_step (zh HB) hb); clear hb ho22; have p20 : 0 ≤ (0 : Int) := (by omega); have q20 : (0 : Int) < ((y106.length : Int) : Int) := of_decide_eq_true zas; have qi20 : (0 < y106.length) = True := eq_true (by omega); obtain ⟨go20, co20, eo20, gb20, gl20, cl20, HG20⟩ := Kd.R_form HO108.out (by omega); (first | cases eo20 | (injection eo20 with ea_ en_ ec_; (first | subst ea_ | (injection ea_ with ea_; subst ea_)); subst ec_; clear en_)); have GB20 := Aside0.mk gb20; have GG20 := Aside0.mk HG20; clear gb20 gl20 HG20; obtain ⟨hx20_0, hf20_0⟩ := Kd.R_celln 0 HO108.out (0 : Int) p20 q20; (try rw [show ((0 : Int)).toNat = 0 from rfl] at hx20_0); (try simp only [Nat.reduceMul, Nat.zero_mul, Nat.zero_add, Nat.reduceAdd] at hx20_0); (try rw [show ((0 : Int)).toNat = 0 from rfl] at hf20_0); (try simp only [Nat.reduceMul, Nat.zero_mul, Nat.zero_add, Nat.reduceAdd] at hf20_0); replace p20 := eq_true p20; replace q20 := eq_true q20; have n_ := Aside0.mk (Kd.R_mono (ok' := (fun k_ => some k_ ≠ (u5 : Value).ownBlock)) HO108.out (fun k_ hk => hk.2)); clear HO108; have HO108 := n_; clear n_; obtain ⟨hy23_, hz23_⟩ := Kd.R_celln 0 HO108.out (0 : Int) (by omega) (of_decide_eq_true zas); (try simp only [Int.reduceToNat, Int.toNat_zero, Int.toNat_ofNat, Nat.reduceMul, Nat.zero_mul, Nat.zero_add] at hy23_ hz23_); (try rw [show ((0 : Int)).toNat = 0 from rfl] at hy23_); (try rw [show ((0 : Int)).toNat = 0 from rfl] at hz23_); have HP23 := Kd.R_putg HO108.out (0 : Int) (wrap64 (x27_2 + 1))) | ((with_reducible refine gate_store (t := 3) (p := 37) rfl ?_); refine store_event (t := 3) (p := 37) (v := ?vo_w24) (w1 := (w21.setCell ⟨go20, (0 : Int).toNat, none⟩ (.int .i64 (wrap64 (x27_2 + 1))))) ?hg ?ho ?hn ?hr ?_; (case ho => rfl); (case hg => rfl); (case hn => rfl); (case hr => first | (go_simp; done) | (go_simp; rfl)); intro w24 hw; have hg : w21.grownBy w24 (some go20) := (by rw [hw]; exact HP23.2); have hp_ : Kd.R (Kd.int .i64) 3 w24 w.heap.size (fun k_ => some k_ ≠ (u5 : Value).ownBlock) (.slice (some ⟨go20, 0, none⟩) y106.length co20) y109 := (by rw [hw, Ny109.out]; exact HP23.1); clear HP23; replace HO_5 := Aside0.mk (Kd.R_after (v := (.slice (some ⟨go20, 0, none⟩) y106.length co20)) (v1 := (.slice (some ⟨go20, 0, none⟩) y106.length co20)) (ok := (fun _ => True)) (zr HO_5) hg (.inl rfl)); replace HO108 := Aside0.mk (hp_); replace HB := Aside0.mk ((by rw [hw]; exact below_set (HB.out) GB20.out : Below w.heap.size w w24)); clear hg hw hp_))
     go_loopg [40] k2 (fun kq v40 w' => ∃ (x8_3 : List Int) (x40_3 : Int), v40 = .int .i64 x40_3 ∧ Aside0 (impl_edits.l2 kq l0 l1 x5_2 x27_2 x8_3 (l0.length : Int) x27_2 (l1.length : Int) x40_3 = some r) ∧ Aside0 (kq ≤ k2) ∧ Aside0 (Kd.R (Kd.int .i64) 3 w' w.heap.size (fun k_ => some k_ ≠ ((.slice (some ⟨go20, 0, none⟩) y106.length co20) : Value).ownBlock) u5 x5_2) ∧ Aside0 (Kd.R (Kd.int .i64) 3 w' w.heap.size (fun k_ => some k_ ≠ (u5 : Value).ownBlock) (.slice (some ⟨go20, 0, none⟩) y106.length co20) x8_3) ∧ Aside0 (Below w.heap.size w w'))
     case atStart => exact ⟨(y109), (0), zrs, H', ⟨Nat.le_refl _⟩, ⟨by (try simp only [hl5_1]); (with_reducible repeat (first | apply Kd.R_alloc | apply Kd.R_drewN | apply Kd.R_drew)); exact Kd.R_mono HO_5.out (fun _ hk => hk.2)⟩, ⟨by (try simp only [hl5_1]); (with_reducible repeat (first | apply Kd.R_alloc | apply Kd.R_drewN | apply Kd.R_drew)); exact HO108.out⟩, ⟨zh HB⟩⟩
     case round =>
      clear H'
      try clear c1
      try clear c4
      try clear c4b0
      try clear c4b1
      try clear c5
      try clear c5b0
      try clear c5b1
      try clear c9
      try clear c9b0
      try clear c15
      try clear c15b0
      try clear c17
      try clear c17b0
      try clear c17b1
      try clear c18
      try clear c18b0
      try clear c18b1
      try clear c19
      try clear c19b0
      try clear c19b1
      try clear p20
      try clear q20
      try clear qi20
      try clear hx20_0
      try clear p20
      try clear q20
      obtain ⟨x8_3, x40_3, rfl, HA, HK3, HO_5, HO_8, HB⟩ := hrel
      have hl8_3 := (Kd.R_reads' HO_8.out).1
      rw [hl8_3] at HO_8
      (try simp only [hl8_3])
      (try simp only [hl8_3] at HO_5)
      cases gk with
      | zero => exact absurd HA.out (by simp [impl_edits.l2])
      | succ k3 =>
       have H := HA.out
       clear HA
       simp only [impl_edits.l2] at H
       by_cases c25 : x40_3 < (l1.length : Int)
       rotate_left
       ·rw [if_neg c25] at H
        have c25b0 : decide (x40_3 < (l1.length : Int)) = false := decide_eq_false c25
        clear c25
        have H' := Aside0.mk H
        clear H
        go_wp2
        (try simp only [← hl8_3])
        go_roundg k3
        case measure => have := HK1.out; have := HK2.out; have := HK3.out; omega
        case rel => exact ⟨(x8_3), (wrap64 (x27_2 + 1)), zrs, H', ⟨by have := HK1.out; have := HK2.out; have := HK3.out; omega⟩, ⟨by (try simp only [hl5_1]); (try simp only [hl8_3]); (with_reducible repeat (first | apply Kd.R_alloc | apply Kd.R_drewN | apply Kd.R_drew)); exact Kd.R_mono HO_8.out (fun _ hk => trivial)⟩, ⟨zh HB⟩⟩
       rw [if_pos c25] at H
       have c25b0 : decide (x40_3 < (l1.length : Int)) = true := decide_eq_true c25
       clear c25
       by_cases c26 : 0 ≤ x40_3
       rotate_left
       ·rw [if_neg c26] at H
        exact absurd H (by simp)
       rw [if_pos c26] at H
       have c26b0 : decide (0 ≤ x40_3) = true := decide_eq_true c26
       clear c26
       by_cases c27 : x40_3 < (x5_2.length : Int)
       rotate_left
       ·rw [if_neg c27] at H
        exact absurd H (by simp)
       rw [if_pos c27] at H
       have c27b0 : decide (x40_3 < (x5_2.length : Int)) = true := decide_eq_true c27
       clear c27
       by_cases c28 : 0 ≤ x27_2
       rotate_left
       ·rw [if_neg c28] at H
        exact absurd H (by simp)
       rw [if_pos c28] at H
       have c28b0 : decide (0 ≤ x27_2) = true := decide_eq_true c28
       clear c28
       by_cases c29 : x27_2 < (l0.length : Int)
       rotate_left
       ·rw [if_neg c29] at H
        exact absurd H (by simp)
       rw [if_pos c29] at H
       have c29b0 : decide (x27_2 < (l0.length : Int)) = true := decide_eq_true c29
       clear c29
       by_cases c30 : x40_3 < (l1.length : Int)
       rotate_left
       ·rw [if_neg c30] at H
        exact absurd H (by simp)
       rw [if_pos c30] at H
       have c30b0 : decide (x40_3 < (l1.length : Int)) = true := decide_eq_true c30
       clear c30
       by_cases c31 : (rd l0 x27_2) = (rd l1 x40_3)
       ·rw [if_pos c31] at H
        have c31b0 : ((rd l0 x27_2) == (rd l1 x40_3)) = true := beq_iff_eq.mpr c31
        have c31b1 : ((rd l0 x27_2) != (rd l1 x40_3)) = false := bne_eq_false_iff_eq.mpr c31
        clear c31
        obtain ⟨ji32, hji32⟩ : ∃ j_ : Int, (wrap64 (x40_3 + 1)) = j_ := ⟨_, rfl⟩
        replace H : (if 0 ≤ (ji32) then (if (ji32) < (x5_2.length : Int) then (if x40_3 < (x8_3.length : Int) then (if (ji32) < (x8_3.length : Int) then (impl_edits.l2 k3 l0 l1 x5_2 x27_2 (x8_3.set ((ji32) : Int).toNat (mn (mn (rd x5_2 x40_3) (wrap64 ((rd x5_2 (ji32)) + 1))) (wrap64 ((rd x8_3 x40_3) + 1)))) (l0.length : Int) x27_2 (l1.length : Int) ji32) else (none)) else (none)) else (none)) else (none)) = some r := by first | (rw [hji32] at H; exact H) | (simp only [hji32] at H ⊢; exact H)
        have hji32w : (IntKind.i64.wrap (x40_3 + 1)) = ji32 := (i64_w _).trans hji32
        by_cases c33 : 0 ≤ (ji32)
        rotate_left
        ·rw [if_neg c33] at H
         exact absurd H (by simp)
        rw [if_pos c33] at H
        have c33b0 : decide (0 ≤ (ji32)) = true := decide_eq_true c33
        clear c33
        by_cases c34 : (ji32) < (x5_2.length : Int)
        rotate_left
        ·rw [if_neg c34] at H
         exact absurd H (by simp)
        rw [if_pos c34] at H
        have c34b0 : decide ((ji32) < (x5_2.length : Int)) = true := decide_eq_true c34
        clear c34
        by_cases c35 : x40_3 < (x8_3.length : Int)
        rotate_left
        ·rw [if_neg c35] at H
         exact absurd H (by simp)
        rw [if_pos c35] at H
        have c35b0 : decide (x40_3 < (x8_3.length : Int)) = true := decide_eq_true c35
        clear c35
        obtain ⟨ji36, hji36⟩ : ∃ j_ : Int, (mn (rd x5_2 x40_3) (wrap64 ((rd x5_2 (ji32)) + 1))) = j_ := ⟨_, rfl⟩
        replace H : (if (ji32) < (x8_3.length : Int) then (impl_edits.l2 k3 l0 l1 x5_2 x27_2 (x8_3.set ((ji32) : Int).toNat (mn (ji36) (wrap64 ((rd x8_3 x40_3) + 1)))) (l0.length : Int) x27_2 (l1.length : Int) ji32) else (none)) = some r := by first | (rw [hji36] at H; exact H) | (simp only [hji36] at H ⊢; exact H)
        have hji36_ : (if (wrap64 ((rd x5_2 (ji32)) + 1)) < (rd x5_2 x40_3) then (wrap64 ((rd x5_2 (ji32)) + 1)) else (rd x5_2 x40_3)) = ji36 := hji36
        obtain ⟨ji37, hji37⟩ : ∃ j_ : Int, (mn (ji36) (wrap64 ((rd x8_3 x40_3) + 1))) = j_ := ⟨_, rfl⟩
        replace H : (if (ji32) < (x8_3.length : Int) then (impl_edits.l2 k3 l0 l1 x5_2 x27_2 (x8_3.set ((ji32) : Int).toNat (ji37)) (l0.length : Int) x27_2 (l1.length : Int) ji32) else (none)) = some r := by first | (rw [hji37] at H; exact H) | (simp only [hji37] at H ⊢; exact H)
        have hji37_ : (if (wrap64 ((rd x8_3 x40_3) + 1)) < (ji36) then (wrap64 ((rd x8_3 x40_3) + 1)) else (ji36)) = ji37 := hji37
        by_cases c38 : (ji32) < (x8_3.length : Int)
        rotate_left
        ·rw [if_neg c38] at H
         exact absurd H (by simp)
        rw [if_pos c38] at H
        have c38b0 : decide ((ji32) < (x8_3.length : Int)) = true := decide_eq_true c38
        clear c38
        obtain ⟨y115, hy115⟩ : ∃ y_ : List Int, y_ = (x8_3.set ((ji32) : Int).toNat (ji37)) := ⟨_, rfl⟩
        replace H : (impl_edits.l2 k3 l0 l1 x5_2 x27_2 y115 (l0.length : Int) x27_2 (l1.length : Int) ji32) = some r := zby hy115 H
        have Ny115 := Aside0.mk hy115
        clear hy115
        have H' := Aside0.mk H
        clear H
        obtain ⟨Ao40, co40, eo40⟩ := Kd.R_slice HO_5.out
        subst eo40
        have p110 : 0 ≤ (x40_3 : Int) := of_decide_eq_true zas
        have q110 : x40_3 < (x5_2.length : Int) := of_decide_eq_true zas
        obtain ⟨ad110, e110, hx110_0⟩ := Kd.at_int (Kd.R_reads' HO_5.out).2.2 x40_3 p110 q110
        cases e110
        replace p110 := eq_true p110
        replace q110 := eq_true q110
        try go_wp2
        replace HO_5 := Aside0.mk (Kd.R_drew HO_5.out)
        replace HO_8 := Aside0.mk (Kd.R_drew HO_8.out)
        replace HB := Aside0.mk (below_drew1 HB.out)
        have p111 : 0 ≤ (x27_2 : Int) := of_decide_eq_true zas
        have q111 : x27_2 < (l0.length : Int) := of_decide_eq_true zas
        obtain ⟨ad111, e111, hx111_0⟩ := Kd.at_int HR0.out x27_2 p111 q111
        have hw111_0 := hx111_0
        cases e111
        replace hx111_0 := zx HB hx111_0
        replace p111 := eq_true p111
        replace q111 := eq_true q111
        have p112 : 0 ≤ (x40_3 : Int) := of_decide_eq_true zas
        have q112 : x40_3 < (l1.length : Int) := of_decide_eq_true zas
        obtain ⟨ad112, e112, hx112_0⟩ := Kd.at_int HR1.out x40_3 p112 q112
        have hw112_0 := hx112_0
        cases e112
        replace hx112_0 := zx HB hx112_0
        replace p112 := eq_true p112
        replace q112 := eq_true q112
        refine start_ (n := 9) (S := fun w' => w'.cell? (ad111.add (x27_2).toNat) = some (.int .i64 (rd l0 x27_2)) ∧ w'.cell? (ad112.add (x40_3).toNat) = some (.int .i64 (rd l1 x40_3))) (ds := []) (fl2_ 9 0) (by kernel_rfl) rfl rfl ⟨(zxx HB hw111_0), (zxx HB hw112_0)⟩ (fun hHeld => ?_); refine with_tabW impl_edits.tab16 impl_edits.bits16 (fun HT_ HW_ => ?_)
        generalize wr.drew = w41 at HO_5 HO_8 HB hx111_0 hx112_0 hHeld ⊢
        refine zpu HT_ 0 47 (fl2_ 9 1) ?_
        refine zpu HT_ 1 48 (fl2_ 9 3) ?_
        refine zpu HT_ 2 49 (fl2_ 9 7) ?_
        refine zpu HT_ 4 51 (fl2_ 9 23) ?_
        refine zpu HT_ 5 52 (fl2_ 9 55) ?_
        refine zpu HT_ 6 53 (fl2_ 9 119) ?_
        refine take_ (i := 3) (N := some 50) (v := ?_) (a' := ?_) (fl2_ 9 127) rfl rfl (take_ofW HT_.out HW_.out (by kernel_rfl)) (fun _ _ _ h => h) (Or.inl ⟨by rfl, ?_⟩) hHeld ?_ ?_
        rotate_left
        ·rintro w' ⟨s0, s1⟩
         go_simp
         with_reducible rfl
        rotate_left
        ·simp only [Act.put, List.setIfInBounds_toArray, List.set_cons_zero, List.set_cons_succ, i64_w, i32_w]
         rfl
        refine take_ (i := 7) (N := some 54) (v := ?_) (a' := ?_) (fl2_ 9 255) rfl rfl (take_ofW HT_.out HW_.out (by kernel_rfl)) (fun _ _ _ h => h) (Or.inl ⟨by rfl, ?_⟩) hHeld ?_ ?_
        rotate_left
        ·rintro w' ⟨s0, s1⟩
         go_simp
         with_reducible rfl
        rotate_left
        ·simp only [Act.put, List.setIfInBounds_toArray, List.set_cons_zero, List.set_cons_succ, i64_w, i32_w]
         rfl
        refine zpu HT_ 8 55 (fl2_ 9 511) ?_
        refine done_ (done_of HT_.out (by kernel_rfl)) ?_
        try go_wp2
        replace HO_5 := Aside0.mk (Kd.R_drew HO_5.out)
        replace HO_8 := Aside0.mk (Kd.R_drew HO_8.out)
        replace HB := Aside0.mk (below_drew1 HB.out)
        have p113 : 0 ≤ ((ji32) : Int) := of_decide_eq_true zas
        have q113 : (ji32) < (x5_2.length : Int) := of_decide_eq_true zas
        obtain ⟨ad113, e113, hx113_0⟩ := Kd.at_int (Kd.R_reads' HO_5.out).2.2 (ji32) p113 q113
        obtain rfl : ad110 = ad113 := (by injection e113)
        replace p113 := eq_true p113
        replace q113 := eq_true q113
        have p114 : 0 ≤ (x40_3 : Int) := of_decide_eq_true zas
        have q114 : x40_3 < (x8_3.length : Int) := of_decide_eq_true zas
        obtain ⟨ad114, e114, hx114_0⟩ := Kd.at_int (Kd.R_reads' HO_8.out).2.2 x40_3 p114 q114
        obtain rfl : (⟨go20, 0, none⟩ : Addr) = ad114 := (by injection e114)
        (first | simp only [add_plain] at hx114_0 | simp only [add_at] at hx114_0 | simp only [Addr.add, Nat.zero_add] at hx114_0 | skip)
        replace p114 := eq_true p114
        replace q114 := eq_true q114
        have p39 : 0 ≤ ((ji32) : Int) := of_decide_eq_true zas
        have q39 : ((ji32) : Int) < ((x8_3.length : Int) : Int) := of_decide_eq_true zas
        obtain ⟨hx39_0, hf39_0⟩ := Kd.R_celln 0 HO_8.out ((ji32) : Int) p39 q39
        replace p39 := eq_true p39
        replace q39 := eq_true q39
        have HP43 := Kd.R_putn HO_8.out ((ji32) : Int) ji37
        rw [← Ny115.out] at HP43
        have HQ43 := Aside0.mk HP43
        clear HP43
        refine start_ (n := 18) (S := fun w' => w'.cell? (ad110.add ((ji32)).toNat) = some (.int .i64 (rd x5_2 (ji32))) ∧ w'.cell? ⟨go20, (x40_3).toNat, none⟩ = some (.int .i64 (rd x8_3 x40_3))) (ds := [17]) (fl2_ 18 0) (by kernel_rfl) rfl rfl ⟨hx113_0, hx114_0⟩ (fun hHeld => ?_); refine with_tabW impl_edits.tab18 impl_edits.bits18 (fun HT_ HW_ => ?_)
        generalize w41.drew = w42 at HO_5 HO_8 HB HQ43 hf39_0 hx113_0 hx114_0 hx39_0 hHeld ⊢
        refine zpu HT_ 0 58 (fl2_ 18 1) ?_
        refine zpu HT_ 1 59 (fl2_ 18 3) ?_
        refine zpu HT_ 2 60 (fl2_ 18 7) ?_
        refine zpu HT_ 3 61 (fl2_ 18 15) ?_
        refine zpu HT_ 4 62 (fl2_ 18 31) ?_
        refine zpu HT_ 5 63 (fl2_ 18 63) ?_
        refine zpu HT_ 6 64 (fl2_ 18 127) ?_
        refine zpu HT_ 7 65 (fl2_ 18 255) ?_
        refine zpu HT_ 10 68 (fl2_ 18 1279) ?_
        refine zpu HT_ 11 69 (fl2_ 18 3327) ?_
        refine zpu HT_ 12 70 (fl2_ 18 7423) ?_
        refine take_ (i := 8) (N := some 66) (v := ?_) (a' := ?_) (fl2_ 18 7679) rfl rfl (take_ofW HT_.out HW_.out (by kernel_rfl)) (fun _ _ _ h => h) (Or.inl ⟨by rfl, ?_⟩) hHeld ?_ ?_
        rotate_left
        ·rintro w' ⟨s0, s1⟩
         go_simp
         with_reducible rfl
        rotate_left
        ·simp only [Act.put, List.setIfInBounds_toArray, List.set_cons_zero, List.set_cons_succ, i64_w, i32_w]
         rfl
        refine zpu HT_ 9 67 (fl2_ 18 8191) ?_
        refine take_ (i := 13) (N := some 71) (v := ?_) (a' := ?_) (fl2_ 18 16383) rfl rfl (take_ofW HT_.out HW_.out (by kernel_rfl)) (fun _ _ _ h => h) (Or.inl ⟨by rfl, ?_⟩) hHeld ?_ ?_
        rotate_left
        ·rintro w' ⟨s0, s1⟩
         go_simp
         with_reducible rfl
        rotate_left
        ·simp only [Act.put, List.setIfInBounds_toArray, List.set_cons_zero, List.set_cons_succ, i64_w, i32_w]
         rfl
        refine zpu HT_ 14 72 (fl2_ 18 32767) ?_
        refine zpu HT_ 15 73 (fl2_ 18 65535) ?_
        refine zpu HT_ 16 74 (fl2_ 18 131071) ?_
        refine last_ (i := 17) (N := none) (fl2_ 18 262143) rfl rfl (one_of HT_.out (by kernel_rfl)) (by decide) (fun K hK => ?_)
        refine skip_ (w1 := ?_) (by rfl) rfl ?_ ?_
        rotate_left
        ·go_simp
         rfl
        refine hK.out _ _ ?_
        clear hK K
        refine done_ (done_of HT_.out (by kernel_rfl)) ?_
        try go_wp2
        (try simp only [← hl8_3])
        go_roundg k3
        case measure => have := HK1.out; have := HK2.out; have := HK3.out; omega
        case rel => exact ⟨(y115), (ji32), (by first | rfl | (simp; done) | (simp only [← hji32] <;> (first | rfl | simp)) | (simp [*]; done)), H', ⟨by have := HK1.out; have := HK2.out; have := HK3.out; omega⟩, ⟨by (try simp only [hl5_1]); (try simp only [hl8_3]); (with_reducible repeat (first | apply Kd.R_alloc | apply Kd.R_drewN | apply Kd.R_drew)); exact Kd.R_mono (Kd.R_far (p := ⟨go20, ((ji32) : Int).toNat, none⟩) (Kd.R_mono HO_5.out (fun k_ hk => (⟨hk, fun e_ => hk (by rw [e_]; rfl)⟩ : _ ∧ k_ ≠ go20))) (fun _ hk => hk.2) (.int .i64 ji37)) (fun _ hk => hk.1)⟩, ⟨by (try simp only [hl5_1]); (try simp only [hl8_3]); (with_reducible repeat (first | apply Kd.R_alloc | apply Kd.R_drewN | apply Kd.R_drew)); exact HQ43.out⟩, ⟨zg HB⟩⟩
       rw [if_neg c31] at H
       have c31b0 : ((rd l0 x27_2) == (rd l1 x40_3)) = false := beq_eq_false_iff_ne.mpr c31
       have c31b1 : ((rd l0 x27_2) != (rd l1 x40_3)) = true := bne_iff_ne.mpr c31
       obtain ⟨ji44, hji44⟩ : ∃ j_ : Int, (wrap64 (x40_3 + 1)) = j_ := ⟨_, rfl⟩
       replace H : (if 0 ≤ (ji44) then (if (ji44) < (x5_2.length : Int) then (if x40_3 < (x8_3.length : Int) then (if (ji44) < (x8_3.length : Int) then (impl_edits.l2 k3 l0 l1 x5_2 x27_2 (x8_3.set ((ji44) : Int).toNat (mn (mn (wrap64 ((rd x5_2 x40_3) + 1)) (wrap64 ((rd x5_2 (ji44)) + 1))) (wrap64 ((rd x8_3 x40_3) + 1)))) (l0.length : Int) x27_2 (l1.length : Int) ji44) else (none)) else (none)) else (none)) else (none)) = some r := by first | (rw [hji44] at H; exact H) | (simp only [hji44] at H ⊢; exact H)
       have hji44w : (IntKind.i64.wrap (x40_3 + 1)) = ji44 := (i64_w _).trans hji44
       by_cases c45 : 0 ≤ (ji44)
       rotate_left
       ·rw [if_neg c45] at H
        exact absurd H (by simp)
       rw [if_pos c45] at H
       have c45b0 : decide (0 ≤ (ji44)) = true := decide_eq_true c45
       clear c45
       by_cases c46 : (ji44) < (x5_2.length : Int)
       rotate_left
       ·rw [if_neg c46] at H
        exact absurd H (by simp)
       rw [if_pos c46] at H
       have c46b0 : decide ((ji44) < (x5_2.length : Int)) = true := decide_eq_true c46
       clear c46
       by_cases c47 : x40_3 < (x8_3.length : Int)
       rotate_left
       ·rw [if_neg c47] at H
        exact absurd H (by simp)
       rw [if_pos c47] at H
       have c47b0 : decide (x40_3 < (x8_3.length : Int)) = true := decide_eq_true c47
       clear c47
       obtain ⟨ji48, hji48⟩ : ∃ j_ : Int, (mn (wrap64 ((rd x5_2 x40_3) + 1)) (wrap64 ((rd x5_2 (ji44)) + 1))) = j_ := ⟨_, rfl⟩
       replace H : (if (ji44) < (x8_3.length : Int) then (impl_edits.l2 k3 l0 l1 x5_2 x27_2 (x8_3.set ((ji44) : Int).toNat (mn (ji48) (wrap64 ((rd x8_3 x40_3) + 1)))) (l0.length : Int) x27_2 (l1.length : Int) ji44) else (none)) = some r := by first | (rw [hji48] at H; exact H) | (simp only [hji48] at H ⊢; exact H)
       have hji48_ : (if (wrap64 ((rd x5_2 (ji44)) + 1)) < (wrap64 ((rd x5_2 x40_3) + 1)) then (wrap64 ((rd x5_2 (ji44)) + 1)) else (wrap64 ((rd x5_2 x40_3) + 1))) = ji48 := hji48
       obtain ⟨ji49, hji49⟩ : ∃ j_ : Int, (mn (ji48) (wrap64 ((rd x8_3 x40_3) + 1))) = j_ := ⟨_, rfl⟩
       replace H : (if (ji44) < (x8_3.length : Int) then (impl_edits.l2 k3 l0 l1 x5_2 x27_2 (x8_3.set ((ji44) : Int).toNat (ji49)) (l0.length : Int) x27_2 (l1.length : Int) ji44) else (none)) = some r := by first | (rw [hji49] at H; exact H) | (simp only [hji49] at H ⊢; exact H)
       have hji49_ : (if (wrap64 ((rd x8_3 x40_3) + 1)) < (ji48) then (wrap64 ((rd x8_3 x40_3) + 1)) else (ji48)) = ji49 := hji49
       by_cases c50 : (ji44) < (x8_3.length : Int)
       rotate_left
       ·rw [if_neg c50] at H
        exact absurd H (by simp)
       rw [if_pos c50] at H
       have c50b0 : decide ((ji44) < (x8_3.length : Int)) = true := decide_eq_true c50
       clear c50
       obtain ⟨y118, hy118⟩ : ∃ y_ : List Int, y_ = (x8_3.set ((ji44) : Int).toNat (ji49)) := ⟨_, rfl⟩
       replace H : (impl_edits.l2 k3 l0 l1 x5_2 x27_2 y118 (l0.length : Int) x27_2 (l1.length : Int) ji44) = some r := zby hy118 H
       have Ny118 := Aside0.mk hy118
       clear hy118
       have H' := Aside0.mk H
       clear H
       obtain ⟨Ao52, co52, eo52⟩ := Kd.R_slice HO_5.out
       subst eo52
       have p110 : 0 ≤ (x40_3 : Int) := of_decide_eq_true zas
       have q110 : x40_3 < (x5_2.length : Int) := of_decide_eq_true zas
       obtain ⟨ad110, e110, hx110_0⟩ := Kd.at_int (Kd.R_reads' HO_5.out).2.2 x40_3 p110 q110
       cases e110
       replace p110 := eq_true p110
       replace q110 := eq_true q110
       try go_wp2
       replace HO_5 := Aside0.mk (Kd.R_drew HO_5.out)
       replace HO_8 := Aside0.mk (Kd.R_drew HO_8.out)
       replace HB := Aside0.mk (below_drew1 HB.out)
       have p111 : 0 ≤ (x27_2 : Int) := of_decide_eq_true zas
       have q111 : x27_2 < (l0.length : Int) := of_decide_eq_true zas
       obtain ⟨ad111, e111, hx111_0⟩ := Kd.at_int HR0.out x27_2 p111 q111
       have hw111_0 := hx111_0
       cases e111
       replace hx111_0 := zx HB hx111_0
       replace p111 := eq_true p111
       replace q111 := eq_true q111
       have p112 : 0 ≤ (x40_3 : Int) := of_decide_eq_true zas
       have q112 : x40_3 < (l1.length : Int) := of_decide_eq_true zas
       obtain ⟨ad112, e112, hx112_0⟩ := Kd.at_int HR1.out x40_3 p112 q112
       have hw112_0 := hx112_0
       cases e112
       replace hx112_0 := zx HB hx112_0
       replace p112 := eq_true p112
       replace q112 := eq_true q112
       refine start_ (n := 9) (S := fun w' => w'.cell? (ad111.add (x27_2).toNat) = some (.int .i64 (rd l0 x27_2)) ∧ w'.cell? (ad112.add (x40_3).toNat) = some (.int .i64 (rd l1 x40_3))) (ds := []) (fl2_ 9 0) (by kernel_rfl) rfl rfl ⟨(zxx HB hw111_0), (zxx HB hw112_0)⟩ (fun hHeld => ?_); refine with_tabW impl_edits.tab16 impl_edits.bits16 (fun HT_ HW_ => ?_)
       generalize wr.drew = w53 at HO_5 HO_8 HB hx111_0 hx112_0 hHeld ⊢
       refine zpu HT_ 0 47 (fl2_ 9 1) ?_
       refine zpu HT_ 1 48 (fl2_ 9 3) ?_
       refine zpu HT_ 2 49 (fl2_ 9 7) ?_
       refine zpu HT_ 4 51 (fl2_ 9 23) ?_
       refine zpu HT_ 5 52 (fl2_ 9 55) ?_
       refine zpu HT_ 6 53 (fl2_ 9 119) ?_
       refine take_ (i := 3) (N := some 50) (v := ?_) (a' := ?_) (fl2_ 9 127) rfl rfl (take_ofW HT_.out HW_.out (by kernel_rfl)) (fun _ _ _ h => h) (Or.inl ⟨by rfl, ?_⟩) hHeld ?_ ?_
       rotate_left
       ·rintro w' ⟨s0, s1⟩
        go_simp
        with_reducible rfl
       rotate_left
       ·simp only [Act.put, List.setIfInBounds_toArray, List.set_cons_zero, List.set_cons_succ, i64_w, i32_w]
        rfl
       refine take_ (i := 7) (N := some 54) (v := ?_) (a' := ?_) (fl2_ 9 255) rfl rfl (take_ofW HT_.out HW_.out (by kernel_rfl)) (fun _ _ _ h => h) (Or.inl ⟨by rfl, ?_⟩) hHeld ?_ ?_
       rotate_left
       ·rintro w' ⟨s0, s1⟩
        go_simp
        with_reducible rfl
       rotate_left
       ·simp only [Act.put, List.setIfInBounds_toArray, List.set_cons_zero, List.set_cons_succ, i64_w, i32_w]
        rfl
       refine zpu HT_ 8 55 (fl2_ 9 511) ?_
       refine done_ (done_of HT_.out (by kernel_rfl)) ?_
       try go_wp2
       replace HO_5 := Aside0.mk (Kd.R_drew HO_5.out)
       replace HO_8 := Aside0.mk (Kd.R_drew HO_8.out)
       replace HB := Aside0.mk (below_drew1 HB.out)
       have p116 : 0 ≤ ((ji44) : Int) := of_decide_eq_true zas
       have q116 : (ji44) < (x5_2.length : Int) := of_decide_eq_true zas
       obtain ⟨ad116, e116, hx116_0⟩ := Kd.at_int (Kd.R_reads' HO_5.out).2.2 (ji44) p116 q116
       obtain rfl : ad110 = ad116 := (by injection e116)
       replace p116 := eq_true p116
       replace q116 := eq_true q116
       have p117 : 0 ≤ (x40_3 : Int) := of_decide_eq_true zas
       have q117 : x40_3 < (x8_3.length : Int) := of_decide_eq_true zas
       obtain ⟨ad117, e117, hx117_0⟩ := Kd.at_int (Kd.R_reads' HO_8.out).2.2 x40_3 p117 q117
       obtain rfl : (⟨go20, 0, none⟩ : Addr) = ad117 := (by injection e117)
       (first | simp only [add_plain] at hx117_0 | simp only [add_at] at hx117_0 | simp only [Addr.add, Nat.zero_add] at hx117_0 | skip)
       replace p117 := eq_true p117
       replace q117 := eq_true q117
       have p51 : 0 ≤ ((ji44) : Int) := of_decide_eq_true zas
       have q51 : ((ji44) : Int) < ((x8_3.length : Int) : Int) := of_decide_eq_true zas
       obtain ⟨hx51_0, hf51_0⟩ := Kd.R_celln 0 HO_8.out ((ji44) : Int) p51 q51
       replace p51 := eq_true p51
       replace q51 := eq_true q51
       have HP55 := Kd.R_putn HO_8.out ((ji44) : Int) ji49
       rw [← Ny118.out] at HP55
       have HQ55 := Aside0.mk HP55
       clear HP55
       refine start_ (n := 18) (S := fun w' => w'.cell? (ad110.add ((ji44)).toNat) = some (.int .i64 (rd x5_2 (ji44))) ∧ w'.cell? ⟨go20, (x40_3).toNat, none⟩ = some (.int .i64 (rd x8_3 x40_3))) (ds := [17]) (fl2_ 18 0) (by kernel_rfl) rfl rfl ⟨hx116_0, hx117_0⟩ (fun hHeld => ?_); refine with_tabW impl_edits.tab18 impl_edits.bits18 (fun HT_ HW_ => ?_)
       generalize w53.drew = w54 at HO_5 HO_8 HB HQ55 hf51_0 hx116_0 hx117_0 hx51_0 hHeld ⊢
       refine zpu HT_ 0 58 (fl2_ 18 1) ?_
       refine zpu HT_ 1 59 (fl2_ 18 3) ?_
       refine zpu HT_ 2 60 (fl2_ 18 7) ?_
       refine zpu HT_ 3 61 (fl2_ 18 15) ?_
       refine zpu HT_ 4 62 (fl2_ 18 31) ?_
       refine zpu HT_ 5 63 (fl2_ 18 63) ?_
       refine zpu HT_ 6 64 (fl2_ 18 127) ?_
       refine zpu HT_ 7 65 (fl2_ 18 255) ?_
       refine zpu HT_ 10 68 (fl2_ 18 1279) ?_
       refine zpu HT_ 11 69 (fl2_ 18 3327) ?_
       refine zpu HT_ 12 70 (fl2_ 18 7423) ?_
       refine take_ (i := 8) (N := some 66) (v := ?_) (a' := ?_) (fl2_ 18 7679) rfl rfl (take_ofW HT_.out HW_.out (by kernel_rfl)) (fun _ _ _ h => h) (Or.inl ⟨by rfl, ?_⟩) hHeld ?_ ?_
       rotate_left
       ·rintro w' ⟨s0, s1⟩
        go_simp
        with_reducible rfl
       rotate_left
       ·simp only [Act.put, List.setIfInBounds_toArray, List.set_cons_zero, List.set_cons_succ, i64_w, i32_w]
        rfl
       refine zpu HT_ 9 67 (fl2_ 18 8191) ?_
       refine take_ (i := 13) (N := some 71) (v := ?_) (a' := ?_) (fl2_ 18 16383) rfl rfl (take_ofW HT_.out HW_.out (by kernel_rfl)) (fun _ _ _ h => h) (Or.inl ⟨by rfl, ?_⟩) hHeld ?_ ?_
       rotate_left
       ·rintro w' ⟨s0, s1⟩
        go_simp
        with_reducible rfl
       rotate_left
       ·simp only [Act.put, List.setIfInBounds_toArray, List.set_cons_zero, List.set_cons_succ, i64_w, i32_w]
        rfl
       refine zpu HT_ 14 72 (fl2_ 18 32767) ?_
       refine zpu HT_ 15 73 (fl2_ 18 65535) ?_
       refine zpu HT_ 16 74 (fl2_ 18 131071) ?_
       refine last_ (i := 17) (N := none) (fl2_ 18 262143) rfl rfl (one_of HT_.out (by kernel_rfl)) (by decide) (fun K hK => ?_)
       refine skip_ (w1 := ?_) (by rfl) rfl ?_ ?_
       rotate_left
       ·go_simp
        rfl
       refine hK.out _ _ ?_
       clear hK K
       refine done_ (done_of HT_.out (by kernel_rfl)) ?_
       try go_wp2
       (try simp only [← hl8_3])
       go_roundg k3
       case measure => have := HK1.out; have := HK2.out; have := HK3.out; omega
       case rel => exact ⟨(y118), (ji44), (by first | rfl | (simp; done) | (simp only [← hji44] <;> (first | rfl | simp)) | (simp [*]; done)), H', ⟨by have := HK1.out; have := HK2.out; have := HK3.out; omega⟩, ⟨by (try simp only [hl5_1]); (try simp only [hl8_3]); (with_reducible repeat (first | apply Kd.R_alloc | apply Kd.R_drewN | apply Kd.R_drew)); exact Kd.R_mono (Kd.R_far (p := ⟨go20, ((ji44) : Int).toNat, none⟩) (Kd.R_mono HO_5.out (fun k_ hk => (⟨hk, fun e_ => hk (by rw [e_]; rfl)⟩ : _ ∧ k_ ≠ go20))) (fun _ hk => hk.2) (.int .i64 ji49)) (fun _ hk => hk.1)⟩, ⟨by (try simp only [hl5_1]); (try simp only [hl8_3]); (with_reducible repeat (first | apply Kd.R_alloc | apply Kd.R_drewN | apply Kd.R_drew)); exact HQ55.out⟩, ⟨zg HB⟩⟩
end Go.Proofs.YtcokeankiedfcaaDoor.XFnSuggest
