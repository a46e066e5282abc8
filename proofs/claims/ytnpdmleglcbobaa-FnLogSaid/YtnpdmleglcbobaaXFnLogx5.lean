-- A printed text of this session (wip/x/xprint.py).
import Derived.Test.YtnpdmleglcbobaaXFnLogx0
namespace Go.Proofs.Ytnpdmleglcbobaa.XFnLog
open Go.RowKit Go.Proofs.YtnpdmleglcbobaaW.PrintWords Go.Proofs.YtnpdmleglcbobaaW.PrintLast Go.Proofs.YtnpdmleglcbobaaW.PrintMore
attribute [local go_sem] max2_int min2_int max_two min_two max_three min_three max_four min_four   -- for this text's walks alone
set_option linter.unusedVariables false
set_option linter.unusedSimpArgs false

/-! ### F7: function 35 -/
mutual
def F7.j0 : Nat → Bool → ByteArray → List (S66) → Option (Bool)
 | 0, _, _, _ => none
 | k + 1, x16, x102000, x102001 => if x16 = true then (some false) else (F7.l0 k 0 x102000 x102001)
def F7.l0 : Nat → Int → ByteArray → List (S66) → Option (Bool)
 | 0, _, _, _ => none
 | k + 1, x3, x102000, x102001 => if x3 < (x102001.length : Int) then (if 0 ≤ x3 then (if (((rd_T66 x102001 x3).f0).size : Int) > 65536 then (F7.j2 k x3 true x102000 x102001 ((rd_T66 x102001 x3).f0) ((rd_T66 x102001 x3).f1) ((rd_T66 x102001 x3).f2)) else (if (((rd_T66 x102001 x3).f1).length : Int) > 4096 then (F7.j2 k x3 true x102000 x102001 ((rd_T66 x102001 x3).f0) ((rd_T66 x102001 x3).f1) ((rd_T66 x102001 x3).f2)) else (F7.j2 k x3 (decide ((((rd_T66 x102001 x3).f2).length : Int) > 4096)) x102000 x102001 ((rd_T66 x102001 x3).f0) ((rd_T66 x102001 x3).f1) ((rd_T66 x102001 x3).f2)))) else (none)) else (some true)
def F7.j2 : Nat → Int → Bool → ByteArray → List (S66) → ByteArray → List ByteArray → List Int → Option (Bool)
 | 0, _, _, _, _, _, _, _ => none
 | k + 1, x3, x44, x102000, x102001, x104000, x104001, x104002 => if x44 = true then (some false) else (F7.l1 k x3 0 x102000 x102001 x104000 x104001 x104002)
def F7.l1 : Nat → Int → Int → ByteArray → List (S66) → ByteArray → List ByteArray → List Int → Option (Bool)
 | 0, _, _, _, _, _, _, _ => none
 | k + 1, x3, x5, x102000, x102001, x104000, x104001, x104002 => if x5 < (x104001.length : Int) then (if 0 ≤ x5 then (if ((rdOf ByteArray.empty x104001 x5).size : Int) > 65536 then (some false) else (F7.l1 k x3 (wrap64 (x5 + 1)) x102000 x102001 x104000 x104001 x104002)) else (none)) else (F7.l2 k x3 0 x102000 x102001 x104000 x104001 x104002)
def F7.l2 : Nat → Int → Int → ByteArray → List (S66) → ByteArray → List ByteArray → List Int → Option (Bool)
 | 0, _, _, _, _, _, _, _ => none
 | k + 1, x3, x6, x102000, x102001, x104000, x104001, x104002 => if x6 < (x104002.length : Int) then (if 0 ≤ x6 then (if (rd x104002 x6) < (-1000000000000) then (some false) else (if (rd x104002 x6) > 1000000000000 then (some false) else (F7.l2 k x3 (wrap64 (x6 + 1)) x102000 x102001 x104000 x104001 x104002))) else (none)) else (F7.l0 k (wrap64 (x3 + 1)) x102000 x102001)
end
def F7.f (k : Nat) (a0_0 : ByteArray) (l0_1 : List (S66)) : Option (Bool) := if (a0_0.size : Int) > 65536 then (F7.j0 k true a0_0 l0_1) else (F7.j0 k (decide ((l0_1.length : Int) > 4096)) a0_0 l0_1)
theorem F7.mono_l : ∀ k, (∀ y0 y1 y2, LeO (F7.j0 k y0 y1 y2) (F7.j0 (k + 1) y0 y1 y2)) ∧ (∀ y0 y1 y2, LeO (F7.l0 k y0 y1 y2) (F7.l0 (k + 1) y0 y1 y2)) ∧ (∀ y0 y1 y2 y3 y4 y5 y6, LeO (F7.j2 k y0 y1 y2 y3 y4 y5 y6) (F7.j2 (k + 1) y0 y1 y2 y3 y4 y5 y6)) ∧ (∀ y0 y1 y2 y3 y4 y5 y6, LeO (F7.l1 k y0 y1 y2 y3 y4 y5 y6) (F7.l1 (k + 1) y0 y1 y2 y3 y4 y5 y6)) ∧ (∀ y0 y1 y2 y3 y4 y5 y6, LeO (F7.l2 k y0 y1 y2 y3 y4 y5 y6) (F7.l2 (k + 1) y0 y1 y2 y3 y4 y5 y6))
 | 0 => ⟨fun _ _ _ r h => by simp [F7.j0] at h, fun _ _ _ r h => by simp [F7.l0] at h, fun _ _ _ _ _ _ _ r h => by simp [F7.j2] at h, fun _ _ _ _ _ _ _ r h => by simp [F7.l1] at h, fun _ _ _ _ _ _ _ r h => by simp [F7.l2] at h⟩
 | k + 1 => by
  obtain ⟨ih0, ih1, ih2, ih3, ih4⟩ := F7.mono_l k
  refine ⟨?_, ?_, ?_, ?_, ?_⟩
  all_goals intros
  all_goals first | unfold F7.j0 | unfold F7.l0 | unfold F7.j2 | unfold F7.l1 | unfold F7.l2
  all_goals
   repeat' with_reducible first | exact ih0 _ _ _ | exact ih1 _ _ _ | exact ih2 _ _ _ _ _ _ _ | exact ih3 _ _ _ _ _ _ _ | exact ih4 _ _ _ _ _ _ _ | exact LeO.refl _ | exact LeO.none _ | refine LeO.ite ?_ ?_ | refine LeO.bind ?_ (fun _ => ?_)
theorem F7.mono : ∀ a0 a1 k, LeO (F7.f k a0 a1) (F7.f (k + 1) a0 a1) := by
 intro a0 a1 k
 obtain ⟨ih0, ih1, ih2, ih3, ih4⟩ := F7.mono_l k
 unfold F7.f
 repeat' with_reducible first | exact ih0 _ _ _ | exact ih1 _ _ _ | exact ih2 _ _ _ _ _ _ _ | exact ih3 _ _ _ _ _ _ _ | exact ih4 _ _ _ _ _ _ _ | exact LeO.refl _ | exact LeO.none _ | refine LeO.ite ?_ ?_ | refine LeO.bind ?_ (fun _ => ?_)
set_option maxHeartbeats 8000000 in
set_option maxRecDepth 100000 in
theorem F7.calls (k : Nat) (a0_0 : ByteArray) (A0_1 : Option Addr) (c0_1 : Nat) (l0_1 : List (S66)) (r : Bool) (w : World) (hr0_1 : Kd.C k66 w A0_1 l0_1.length l0_1) (hc0_1 : l0_1.length ≤ c0_1) (h : F7.f k a0_0 l0_1 = some r) :
 Calls Try.prog 35 #[.agg #[.string a0_0, .slice A0_1 l0_1.length c0_1]] w fun e w' => e = .returned (.bool r) ∧ Below w.heap.size w w' := by
 have hu31 := Try.underlying31
 have hu66 := Try.underlying66
 have HR0_1 := zm hr0_1
 have HC0_1 := zm hc0_1
 clear hr0_1 hc0_1
 have HB := zm (Below.refl w.heap.size w)
 have H := h
 unfold F7.f at H
 clear h
 have HC2 := zm H
 clear H
 go_enter Try.func35, Try.ntmps35
 go_upto_region 1 with (first | ((with_reducible refine gate_dst (N := 1) rfl ?_); (try (refine gate_guard (by rfl) ?_; dsimp only)); refine box_event (by rfl) (N := 1) (by rfl) (cs := #[.string a0_0, .slice A0_1 l0_1.length c0_1]) (t := 31) zgs ?_; intro gb101 hg w3 hbox hb; have BK101 := zm (hbox); have GW101 := zge hg (below_size (zh HB)); have GE101 := zge hg (below_size (zh HB)); replace HB := zm (below_step (zh HB) hb); clear hb hbox hg))
 (try simp only [Act.put, List.setIfInBounds_toArray, List.set_cons_zero, List.set_cons_succ])
 go_cut [16] (fun v16 wc => ∃ (kq : Nat) (x16_1 : Bool), v16 = .bool x16_1 ∧ Aside0 (F7.j0 kq x16_1 a0_0 l0_1 = some r) ∧ Aside0 (kq ≤ k) ∧ Aside0 (wc.heap[gb101]? = some (.cells #[.string a0_0, (.slice A0_1 l0_1.length c0_1)] 31 (0, 0))) ∧ Aside0 (Below w.heap.size w wc))
 case first =>
  have H := HC2.out
  clear HC2
  by_cases c4 : (a0_0.size : Int) > 65536
  ·rw [if_pos c4] at H
   have c4b0 := decide_eq_true c4
   have c4b1 : decide (65536 < a0_0.size) = true := decide_eq_true (by omega)
   clear c4
   (first | rw [c4b0] | (simp only [i64_w, i32_w]; rw [c4b0]) | skip)
   have H' := zm H
   clear H
   obtain ⟨⟨_, _⟩, _, _⟩ := zc2 BK101
   go_wp2
   go_meet
   case rel => exact ⟨_, (true), zrs, H', ⟨by first | omega | exact Nat.le_refl _⟩, ⟨zb BK101⟩, ⟨zg HB⟩⟩
  rw [if_neg c4] at H
  have c4b0 := decide_eq_false c4
  have c4b1 : decide (65536 < a0_0.size) = false := decide_eq_false (by omega)
  clear c4
  (first | rw [c4b0] | (simp only [i64_w, i32_w]; rw [c4b0]) | skip)
  have H' := zm H
  clear H
  obtain ⟨⟨_, _⟩, _, _⟩ := zc2 BK101
  go_wp2
  go_meet
  case rel => exact ⟨_, (decide ((l0_1.length : Int) > 4096)), zrs, H', ⟨by first | omega | exact Nat.le_refl _⟩, ⟨zb BK101⟩, ⟨zg HB⟩⟩
 case rest =>
  clear HC2
  obtain ⟨kq, x16_1, rfl, HA, HJ1, BK101, HB⟩ := hcut
  cases kq with
  | zero => exact absurd HA.out (by simp [F7.j0])
  | succ kj1 =>
   have H := HA.out
   clear HA
   simp only [F7.j0] at H
   by_cases c7 : x16_1 = true
   ·subst c7
    rw [if_pos rfl] at H
    obtain rfl := Option.some.inj H
    go_wp2
    go_ret
    exact ⟨zre, zg HB⟩
   replace c7 := Bool.eq_false_iff.mpr c7
   subst c7
   rw [if_neg (show ¬ (false = true) by decide)] at H
   have H' := zm H
   clear H
   go_wp2
   go_loopg [3] kj1 (fun kq v3 w' => ∃ (x3_2 : Int), v3 = .int .i64 x3_2 ∧ Aside0 (F7.l0 kq x3_2 a0_0 l0_1 = some r) ∧ Aside0 (kq ≤ kj1) ∧ Aside0 (w'.heap[gb101]? = some (.cells #[.string a0_0, (.slice A0_1 l0_1.length c0_1)] 31 (0, 0))) ∧ Aside0 (Below w.heap.size w w'))
   case atStart => exact ⟨(0), zrs, H', ⟨Nat.le_refl _⟩, ⟨zb BK101⟩, ⟨zg HB⟩⟩
   case round =>
    clear H'
    try clear c7
    obtain ⟨x3_2, rfl, HA, HK2, BK101, HB⟩ := hrel
    cases gk with
    | zero => exact absurd HA.out (by simp [F7.l0])
    | succ k2 =>
     have H := HA.out
     clear HA
     simp only [F7.l0] at H
     by_cases c8 : x3_2 < (l0_1.length : Int)
     rotate_left
     ·rw [if_neg c8] at H
      have c8b0 := decide_eq_false c8
      clear c8
      obtain rfl := Option.some.inj H
      obtain ⟨⟨_, _⟩, _, _⟩ := zc2 BK101
      go_wp2
      go_ret
      exact ⟨zre, zg HB⟩

     rw [if_pos c8] at H
     have c8b0 := decide_eq_true c8
     clear c8
     replace H := zif H
     obtain ⟨c9, H⟩ := H
     have c9b0 := decide_eq_true c9
     clear c9
     have HC10 := zm H
     clear H
     obtain ⟨⟨hcz11_0, hcz11_1⟩, hfz11_0, hfz11_1⟩ := zc2 BK101
     have p102 : 0 ≤ (x3_2 : Int) := of_decide_eq_true zas
     have q102 : x3_2 < (l0_1.length : Int) := of_decide_eq_true zas
     obtain ⟨ad102, A102_1, c102_1, A102_2, c102_2, e102, hx102_0, hx102_1, hx102_2, hl102_1, hi102_1, hl102_2, hi102_2⟩ := at_T66 HR0_1.out x3_2 p102 q102
     cases e102
     replace hx102_0 := zx HB hx102_0
     replace hx102_1 := zx HB hx102_1
     replace hx102_2 := zx HB hx102_2
     have HR102_1 := zm hi102_1
     have HC102_1 := zm hl102_1
     clear hi102_1 hl102_1
     have HR102_2 := zm hi102_2
     have HC102_2 := zm hl102_2
     clear hi102_2 hl102_2
     replace p102 := eq_true p102
     replace q102 := eq_true q102
     go_upto_region 7 with (first | ((with_reducible refine gate_dst (N := 4) rfl ?_); (try (refine gate_guard (by rfl) ?_; dsimp only)); refine box_event (by rfl) (N := 4) (by rfl) (cs := #[.string (⟨#[]⟩ : ByteArray), .slice none 0 0, .slice none 0 0]) (t := 66) zgs ?_; intro gb103 hg w12 hbox hb; have BK103 := zm (hbox); have GW103 := zge hg (below_size (zg HB)); have GE103 := zge hg (below_size (zg HB)); replace HB := zm (below_step (zg HB) hb); obtain ⟨NB101_103, NB103_101⟩ := znn hg (blk_lt (zb BK101)); replace BK101 := zbb BK101 hb; clear hb hbox hg; obtain ⟨_, _⟩ := zne NB103_101; obtain ⟨⟨hcz14_0, hcz14_1, hcz14_2⟩, hfz14_0, hfz14_1, hfz14_2⟩ := zc3 BK103))
     (try simp only [Act.put, List.setIfInBounds_toArray, List.set_cons_zero, List.set_cons_succ])
     go_cut [44] (fun v44 wc => ∃ (kq : Nat) (x44_9 : Bool), v44 = .bool x44_9 ∧ Aside0 (F7.j2 kq x3_2 x44_9 a0_0 l0_1 ((rd_T66 l0_1 x3_2).f0) ((rd_T66 l0_1 x3_2).f1) ((rd_T66 l0_1 x3_2).f2) = some r) ∧ Aside0 (kq ≤ k2) ∧ Aside0 (wc.heap[gb101]? = some (.cells #[.string a0_0, (.slice (some ad102) l0_1.length c0_1)] 31 (0, 0))) ∧ Aside0 (wc.heap[gb103]? = some (.cells #[.string ((rd_T66 l0_1 x3_2).f0), (.slice A102_1 ((rd_T66 l0_1 x3_2).f1).length c102_1), (.slice A102_2 ((rd_T66 l0_1 x3_2).f2).length c102_2)] 66 (0, 0))) ∧ Aside0 (Below w.heap.size w wc))
     case first =>
      have H := HC10.out
      clear HC10
      by_cases c15 : (((rd_T66 l0_1 x3_2).f0).size : Int) > 65536
      ·rw [if_pos c15] at H
       have c15b0 := decide_eq_true c15
       have c15b1 : decide (65536 < ((rd_T66 l0_1 x3_2).f0).size) = true := decide_eq_true (by omega)
       clear c15
       (first | rw [c15b0] | (simp only [i64_w, i32_w]; rw [c15b0]) | skip)
       have H' := zm H
       clear H
       obtain ⟨_, _⟩ := zne NB103_101
       obtain ⟨⟨_, _, _⟩, _, _, _⟩ := zc3 BK103
       go_wp2
       go_meet
       case rel => exact ⟨_, (true), zrs, H', ⟨by have := HJ1.out; have := HK2.out; first | omega | exact Nat.le_refl _⟩, ⟨zp BK101⟩, ⟨zp BK103⟩, ⟨zg HB⟩⟩
      rw [if_neg c15] at H
      have c15b0 := decide_eq_false c15
      have c15b1 : decide (65536 < ((rd_T66 l0_1 x3_2).f0).size) = false := decide_eq_false (by omega)
      clear c15
      (first | rw [c15b0] | (simp only [i64_w, i32_w]; rw [c15b0]) | skip)
      by_cases c18 : (((rd_T66 l0_1 x3_2).f1).length : Int) > 4096
      ·rw [if_pos c18] at H
       have c18b0 := decide_eq_true c18
       have c18b1 : decide (4096 < ((rd_T66 l0_1 x3_2).f1).length) = true := decide_eq_true (by omega)
       clear c18
       have H' := zm H
       clear H
       obtain ⟨_, _⟩ := zne NB103_101
       obtain ⟨⟨_, _, _⟩, _, _, _⟩ := zc3 BK103
       go_wp2
       go_meet
       case rel => exact ⟨_, (true), zrs, H', ⟨by have := HJ1.out; have := HK2.out; first | omega | exact Nat.le_refl _⟩, ⟨zp BK101⟩, ⟨zp BK103⟩, ⟨zg HB⟩⟩
      rw [if_neg c18] at H
      have c18b0 := decide_eq_false c18
      have c18b1 : decide (4096 < ((rd_T66 l0_1 x3_2).f1).length) = false := decide_eq_false (by omega)
      clear c18
      have H' := zm H
      clear H
      obtain ⟨_, _⟩ := zne NB103_101
      obtain ⟨⟨_, _, _⟩, _, _, _⟩ := zc3 BK103
      go_wp2
      go_meet
      case rel => exact ⟨_, (decide ((((rd_T66 l0_1 x3_2).f2).length : Int) > 4096)), zrs, H', ⟨by have := HJ1.out; have := HK2.out; first | omega | exact Nat.le_refl _⟩, ⟨zp BK101⟩, ⟨zp BK103⟩, ⟨zg HB⟩⟩
     case rest =>
      clear HC10
      try clear c7
      try clear c8
      try clear c8b0
      try clear c9
      try clear c9b0
      try clear hcz11_0 hcz11_1
      try clear hcz14_0 hcz14_1 hcz14_2
      try clear hfz11_0 hfz11_1
      try clear hfz14_0 hfz14_1 hfz14_2
      try clear hx102_0
      try clear hx102_1
      try clear hx102_2
      try clear p102
      try clear q102
      obtain ⟨kq, x44_9, rfl, HA, HJ9, BK101, BK103, HB⟩ := hcut
      cases kq with
      | zero => exact absurd HA.out (by simp [F7.j2])
      | succ kj9 =>
       have H := HA.out
       clear HA
       simp only [F7.j2] at H
       by_cases c23 : x44_9 = true
       ·subst c23
        rw [if_pos rfl] at H
        obtain rfl := Option.some.inj H
        go_wp2
        go_ret
        exact ⟨zre, zg HB⟩
       replace c23 := Bool.eq_false_iff.mpr c23
       subst c23
       rw [if_neg (show ¬ (false = true) by decide)] at H
       have H' := zm H
       clear H
       go_wp2
       go_loopg [5] kj9 (fun kq v5 w' => ∃ (x5_4 : Int), v5 = .int .i64 x5_4 ∧ Aside0 (F7.l1 kq x3_2 x5_4 a0_0 l0_1 ((rd_T66 l0_1 x3_2).f0) ((rd_T66 l0_1 x3_2).f1) ((rd_T66 l0_1 x3_2).f2) = some r) ∧ Aside0 (kq ≤ kj9) ∧ Aside0 (w'.heap[gb101]? = some (.cells #[.string a0_0, (.slice (some ad102) l0_1.length c0_1)] 31 (0, 0))) ∧ Aside0 (w'.heap[gb103]? = some (.cells #[.string ((rd_T66 l0_1 x3_2).f0), (.slice A102_1 ((rd_T66 l0_1 x3_2).f1).length c102_1), (.slice A102_2 ((rd_T66 l0_1 x3_2).f2).length c102_2)] 66 (0, 0))) ∧ Aside0 (Below w.heap.size w w'))
       case atStart => exact ⟨(0), zrs, H', ⟨Nat.le_refl _⟩, ⟨zb BK101⟩, ⟨zb BK103⟩, ⟨zg HB⟩⟩
       case round =>
        clear H'
        try clear c7
        try clear c8
        try clear c8b0
        try clear c9
        try clear c9b0
        try clear c23
        try clear hcz11_0 hcz11_1
        try clear hcz14_0 hcz14_1 hcz14_2
        try clear hfz11_0 hfz11_1
        try clear hfz14_0 hfz14_1 hfz14_2
        try clear hx102_0
        try clear hx102_1
        try clear hx102_2
        try clear p102
        try clear q102
        obtain ⟨x5_4, rfl, HA, HK4, BK101, BK103, HB⟩ := hrel
        cases gk with
        | zero => exact absurd HA.out (by simp [F7.l1])
        | succ k4 =>
         have H := HA.out
         clear HA
         simp only [F7.l1] at H
         by_cases c24 : x5_4 < (((rd_T66 l0_1 x3_2).f1).length : Int)
         ·rw [if_pos c24] at H
          have c24b0 := decide_eq_true c24
          clear c24
          replace H := zif H
          obtain ⟨c25, H⟩ := H
          have c25b0 := decide_eq_true c25
          clear c25
          by_cases c26 : ((rdOf ByteArray.empty ((rd_T66 l0_1 x3_2).f1) x5_4).size : Int) > 65536
          ·rw [if_pos c26] at H
           have c26b0 := decide_eq_true c26
           have c26b1 : decide (65536 < (rdOf ByteArray.empty ((rd_T66 l0_1 x3_2).f1) x5_4).size) = true := decide_eq_true (by omega)
           clear c26
           obtain rfl := Option.some.inj H
           obtain ⟨_, _⟩ := zne NB103_101
           obtain ⟨⟨_, _, _⟩, _, _, _⟩ := zc3 BK103
           have p104 : 0 ≤ (x5_4 : Int) := of_decide_eq_true zas
           have q104 : x5_4 < (((rd_T66 l0_1 x3_2).f1).length : Int) := of_decide_eq_true zas
           obtain ⟨ad104, e104, hx104_0⟩ := Kd.at_string HR102_1.out x5_4 p104 q104
           cases e104
           replace hx104_0 := zx HB hx104_0
           replace p104 := eq_true p104
           replace q104 := eq_true q104
           go_wp2
           go_ret
           exact ⟨zre, zg HB⟩
          rw [if_neg c26] at H
          have c26b0 := decide_eq_false c26
          have c26b1 : decide (65536 < (rdOf ByteArray.empty ((rd_T66 l0_1 x3_2).f1) x5_4).size) = false := decide_eq_false (by omega)
          clear c26
          have H' := zm H
          clear H
          obtain ⟨_, _⟩ := zne NB103_101
          obtain ⟨⟨_, _, _⟩, _, _, _⟩ := zc3 BK103
          have p104 : 0 ≤ (x5_4 : Int) := of_decide_eq_true zas
          have q104 : x5_4 < (((rd_T66 l0_1 x3_2).f1).length : Int) := of_decide_eq_true zas
          obtain ⟨ad104, e104, hx104_0⟩ := Kd.at_string HR102_1.out x5_4 p104 q104
          cases e104
          replace hx104_0 := zx HB hx104_0
          replace p104 := eq_true p104
          replace q104 := eq_true q104
          go_wp2
          go_roundg k4
          case measure => have := HJ1.out; have := HK2.out; have := HJ9.out; have := HK4.out; omega
          case rel => exact ⟨(wrap64 (x5_4 + 1)), zrs, H', ⟨by have := HJ1.out; have := HK2.out; have := HJ9.out; have := HK4.out; omega⟩, ⟨zb BK101⟩, ⟨zb BK103⟩, ⟨zg HB⟩⟩
         rw [if_neg c24] at H
         have c24b0 := decide_eq_false c24
         clear c24
         have H' := zm H
         clear H
         obtain ⟨_, _⟩ := zne NB103_101
         obtain ⟨⟨hcz32_0, hcz32_1, hcz32_2⟩, hfz32_0, hfz32_1, hfz32_2⟩ := zc3 BK103
         go_wp2
         go_loopg [6] k4 (fun kq v6 w' => ∃ (x6_5 : Int), v6 = .int .i64 x6_5 ∧ Aside0 (F7.l2 kq x3_2 x6_5 a0_0 l0_1 ((rd_T66 l0_1 x3_2).f0) ((rd_T66 l0_1 x3_2).f1) ((rd_T66 l0_1 x3_2).f2) = some r) ∧ Aside0 (kq ≤ k4) ∧ Aside0 (w'.heap[gb101]? = some (.cells #[.string a0_0, (.slice (some ad102) l0_1.length c0_1)] 31 (0, 0))) ∧ Aside0 (w'.heap[gb103]? = some (.cells #[.string ((rd_T66 l0_1 x3_2).f0), (.slice A102_1 ((rd_T66 l0_1 x3_2).f1).length c102_1), (.slice A102_2 ((rd_T66 l0_1 x3_2).f2).length c102_2)] 66 (0, 0))) ∧ Aside0 (Below w.heap.size w w'))
         case atStart => exact ⟨(0), zrs, H', ⟨Nat.le_refl _⟩, ⟨zb BK101⟩, ⟨zb BK103⟩, ⟨zg HB⟩⟩
         case round =>
          clear H'
          try clear c7
          try clear c8
          try clear c8b0
          try clear c9
          try clear c9b0
          try clear c23
          try clear c24
          try clear c24b0
          try clear hcz11_0 hcz11_1
          try clear hcz14_0 hcz14_1 hcz14_2
          try clear hcz32_0 hcz32_1 hcz32_2
          try clear hfz11_0 hfz11_1
          try clear hfz14_0 hfz14_1 hfz14_2
          try clear hfz32_0 hfz32_1 hfz32_2
          try clear hx102_0
          try clear hx102_1
          try clear hx102_2
          try clear p102
          try clear q102
          obtain ⟨x6_5, rfl, HA, HK5, BK101, BK103, HB⟩ := hrel
          cases gk with
          | zero => exact absurd HA.out (by simp [F7.l2])
          | succ k5 =>
           have H := HA.out
           clear HA
           simp only [F7.l2] at H
           by_cases c33 : x6_5 < (((rd_T66 l0_1 x3_2).f2).length : Int)
           rotate_left
           ·rw [if_neg c33] at H
            have c33b0 := decide_eq_false c33
            clear c33
            have H' := zm H
            clear H
            obtain ⟨_, _⟩ := zne NB103_101
            obtain ⟨⟨_, _, _⟩, _, _, _⟩ := zc3 BK103
            go_wp2
            go_roundg k5
            case measure => have := HJ1.out; have := HK2.out; have := HJ9.out; have := HK4.out; have := HK5.out; omega
            case rel => exact ⟨(wrap64 (x3_2 + 1)), zrs, H', ⟨by have := HJ1.out; have := HK2.out; have := HJ9.out; have := HK4.out; have := HK5.out; omega⟩, ⟨zb BK101⟩, ⟨zg HB⟩⟩
           rw [if_pos c33] at H
           have c33b0 := decide_eq_true c33
           clear c33
           replace H := zif H
           obtain ⟨c34, H⟩ := H
           have c34b0 := decide_eq_true c34
           clear c34
           by_cases c35 : (rd ((rd_T66 l0_1 x3_2).f2) x6_5) < (-1000000000000)
           ·rw [if_pos c35] at H
            have c35b0 := decide_eq_true c35
            clear c35
            obtain rfl := Option.some.inj H
            obtain ⟨_, _⟩ := zne NB103_101
            obtain ⟨⟨_, _, _⟩, _, _, _⟩ := zc3 BK103
            have p105 : 0 ≤ (x6_5 : Int) := of_decide_eq_true zas
            have q105 : x6_5 < (((rd_T66 l0_1 x3_2).f2).length : Int) := of_decide_eq_true zas
            obtain ⟨ad105, e105, hx105_0⟩ := Kd.at_int HR102_2.out x6_5 p105 q105
            cases e105
            replace hx105_0 := zx HB hx105_0
            replace p105 := eq_true p105
            replace q105 := eq_true q105
            go_wp2
            go_ret
            exact ⟨zre, zg HB⟩
           rw [if_neg c35] at H
           have c35b0 := decide_eq_false c35
           clear c35
           by_cases c38 : (rd ((rd_T66 l0_1 x3_2).f2) x6_5) > 1000000000000
           ·rw [if_pos c38] at H
            have c38b0 := decide_eq_true c38
            clear c38
            obtain rfl := Option.some.inj H
            obtain ⟨_, _⟩ := zne NB103_101
            obtain ⟨⟨_, _, _⟩, _, _, _⟩ := zc3 BK103
            have p105 : 0 ≤ (x6_5 : Int) := of_decide_eq_true zas
            have q105 : x6_5 < (((rd_T66 l0_1 x3_2).f2).length : Int) := of_decide_eq_true zas
            obtain ⟨ad105, e105, hx105_0⟩ := Kd.at_int HR102_2.out x6_5 p105 q105
            cases e105
            replace hx105_0 := zx HB hx105_0
            replace p105 := eq_true p105
            replace q105 := eq_true q105
            have p106 : 0 ≤ (x6_5 : Int) := of_decide_eq_true zas
            have q106 : x6_5 < (((rd_T66 l0_1 x3_2).f2).length : Int) := of_decide_eq_true zas
            obtain ⟨ad106, e106, hx106_0⟩ := Kd.at_int HR102_2.out x6_5 p106 q106
            obtain rfl : ad105 = ad106 := (by injection e106)
            replace hx106_0 := zx HB hx106_0
            replace p106 := eq_true p106
            replace q106 := eq_true q106
            go_wp2
            go_ret
            exact ⟨zre, zg HB⟩
           rw [if_neg c38] at H
           have c38b0 := decide_eq_false c38
           clear c38
           have H' := zm H
           clear H
           obtain ⟨_, _⟩ := zne NB103_101
           obtain ⟨⟨_, _, _⟩, _, _, _⟩ := zc3 BK103
           have p105 : 0 ≤ (x6_5 : Int) := of_decide_eq_true zas
           have q105 : x6_5 < (((rd_T66 l0_1 x3_2).f2).length : Int) := of_decide_eq_true zas
           obtain ⟨ad105, e105, hx105_0⟩ := Kd.at_int HR102_2.out x6_5 p105 q105
           cases e105
           replace hx105_0 := zx HB hx105_0
           replace p105 := eq_true p105
           replace q105 := eq_true q105
           have p106 : 0 ≤ (x6_5 : Int) := of_decide_eq_true zas
           have q106 : x6_5 < (((rd_T66 l0_1 x3_2).f2).length : Int) := of_decide_eq_true zas
           obtain ⟨ad106, e106, hx106_0⟩ := Kd.at_int HR102_2.out x6_5 p106 q106
           obtain rfl : ad105 = ad106 := (by injection e106)
           replace hx106_0 := zx HB hx106_0
           replace p106 := eq_true p106
           replace q106 := eq_true q106
           go_wp2
           go_roundg k5
           case measure => have := HJ1.out; have := HK2.out; have := HJ9.out; have := HK4.out; have := HK5.out; omega
           case rel => exact ⟨(wrap64 (x6_5 + 1)), zrs, H', ⟨by have := HJ1.out; have := HK2.out; have := HJ9.out; have := HK4.out; have := HK5.out; omega⟩, ⟨zb BK101⟩, ⟨zb BK103⟩, ⟨zg HB⟩⟩
/-! ### F27: function 76 -/
def F27.l0 : Nat → ByteArray → Int → Option (Bool)
 | 0, _, _ => none
 | k + 1, x0, x3 => if x3 < (x0.size : Int) then (if 0 ≤ x3 then (if (bt x0 x3) < 33 then (some false) else (if (bt x0 x3) > 126 then (some false) else (F27.l0 k x0 (wrap64 (x3 + 1))))) else (none)) else (if (x0.size : Int) ≥ 1 then (some (decide ((x0.size : Int) ≤ 30))) else (some false))
def F27.f (k : Nat) (a0 : ByteArray) : Option (Bool) := F27.l0 k a0 0
theorem F27.mono_l : ∀ k, (∀ y0 y1, LeO (F27.l0 k y0 y1) (F27.l0 (k + 1) y0 y1))
 | 0 => fun _ _ r h => by simp [F27.l0] at h
 | k + 1 => by
  have ih0 := F27.mono_l k
  ·intro y0 y1
   unfold F27.l0
   repeat' with_reducible first | exact ih0 _ _ | exact LeO.refl _ | exact LeO.none _ | refine LeO.ite ?_ ?_ | refine LeO.bind ?_ (fun _ => ?_)
theorem F27.mono : ∀ a0 k, LeO (F27.f k a0) (F27.f (k + 1) a0) := by
 intro a0 k
 have ih0 := F27.mono_l k
 unfold F27.f
 repeat' with_reducible first | exact ih0 _ _ | exact LeO.refl _ | exact LeO.none _ | refine LeO.ite ?_ ?_ | refine LeO.bind ?_ (fun _ => ?_)
set_option maxHeartbeats 8000000 in
set_option maxRecDepth 100000 in
theorem F27.calls (k : Nat) (a0 : ByteArray) (r : Bool) (w : World) (h : F27.f k a0 = some r) :
 Calls Try.prog 76 #[.string a0] w fun e w' => e = .returned (.bool r) ∧ Drawn0 w w' := by
 have H : (F27.l0 k a0 0) = some r := h
 clear h
 have H' := zm H
 clear H
 go_enter Try.func76, Try.ntmps76
 go_wp2
 go_loopg [3] k (fun kq v3 w' => ∃ (x3_1 : Int), v3 = .int .i64 x3_1 ∧ Aside0 (F27.l0 kq a0 x3_1 = some r) ∧ Aside0 (kq ≤ k) ∧ Drawn0 w w')
 case atStart => exact ⟨(0), (by first | rfl | (simp; done) | (simp [*]; done) | (generalize ByteArray.toList _ = l_; cases l_ <;> rfl)), H', ⟨Nat.le_refl _⟩, by repeat (first | exact Drawn0.refl _ | apply Drawn0.step)⟩
 case round =>
  clear H'
  obtain ⟨x3_1, rfl, HA, HK1, ⟨m1, rfl⟩⟩ := hrel
  cases gk with
  | zero => exact absurd HA.out (by simp [F27.l0])
  | succ k1 =>
   have H := HA.out
   clear HA
   simp only [F27.l0] at H
   by_cases c2 : x3_1 < (a0.size : Int)
   rotate_left
   ·rw [if_neg c2] at H
    have c2b0 := decide_eq_false c2
    clear c2
    by_cases c8 : (a0.size : Int) ≥ 1
    ·rw [if_pos c8] at H
     have c8b0 := decide_eq_true c8
     have c8b1 : decide (1 ≤ a0.size) = true := decide_eq_true (by omega)
     clear c8
     obtain rfl := Option.some.inj H
     go_wp2
     go_ret
     exact ⟨zrs, by repeat (first | exact Drawn0.refl _ | apply Drawn0.step)⟩
    rw [if_neg c8] at H
    have c8b0 := decide_eq_false c8
    have c8b1 : decide (1 ≤ a0.size) = false := decide_eq_false (by omega)
    clear c8
    obtain rfl := Option.some.inj H
    go_wp2
    go_ret
    exact ⟨zrs, by repeat (first | exact Drawn0.refl _ | apply Drawn0.step)⟩

   rw [if_pos c2] at H
   have c2b0 := decide_eq_true c2
   clear c2
   replace H := zif H
   obtain ⟨c3, H⟩ := H
   have c3b0 := decide_eq_true c3
   clear c3
   by_cases c5 : (bt a0 x3_1) < 33
   ·rw [if_pos c5] at H
    have c5b0 := decide_eq_true c5
    clear c5
    obtain rfl := Option.some.inj H
    have p4 : 0 ≤ (x3_1 : Int) := of_decide_eq_true zas
    have q4 : x3_1 < (a0.size : Int) := of_decide_eq_true zas
    have hx4 := bt_at a0 x3_1
    replace p4 := eq_true p4
    replace q4 := eq_true q4
    go_wp2
    go_ret
    exact ⟨zrs, by repeat (first | exact Drawn0.refl _ | apply Drawn0.step)⟩
   rw [if_neg c5] at H
   have c5b0 := decide_eq_false c5
   clear c5
   by_cases c7 : (bt a0 x3_1) > 126
   ·rw [if_pos c7] at H
    have c7b0 := decide_eq_true c7
    clear c7
    obtain rfl := Option.some.inj H
    have p4 : 0 ≤ (x3_1 : Int) := of_decide_eq_true zas
    have q4 : x3_1 < (a0.size : Int) := of_decide_eq_true zas
    have hx4 := bt_at a0 x3_1
    replace p4 := eq_true p4
    replace q4 := eq_true q4
    have p6 : 0 ≤ (x3_1 : Int) := of_decide_eq_true zas
    have q6 : x3_1 < (a0.size : Int) := of_decide_eq_true zas
    have hx6 := bt_at a0 x3_1
    replace p6 := eq_true p6
    replace q6 := eq_true q6
    go_wp2
    go_ret
    exact ⟨zrs, by repeat (first | exact Drawn0.refl _ | apply Drawn0.step)⟩
   rw [if_neg c7] at H
   have c7b0 := decide_eq_false c7
   clear c7
   have H' := zm H
   clear H
   have p4 : 0 ≤ (x3_1 : Int) := of_decide_eq_true zas
   have q4 : x3_1 < (a0.size : Int) := of_decide_eq_true zas
   have hx4 := bt_at a0 x3_1
   replace p4 := eq_true p4
   replace q4 := eq_true q4
   have p6 : 0 ≤ (x3_1 : Int) := of_decide_eq_true zas
   have q6 : x3_1 < (a0.size : Int) := of_decide_eq_true zas
   have hx6 := bt_at a0 x3_1
   replace p6 := eq_true p6
   replace q6 := eq_true q6
   go_wp2
   go_roundg k1
   case measure => have := HK1.out; omega
   case rel => exact ⟨(wrap64 (x3_1 + 1)), (by first | rfl | (simp; done) | (simp [*]; done) | (generalize ByteArray.toList _ = l_; cases l_ <;> rfl)), H', ⟨by have := HK1.out; omega⟩, by repeat (first | exact Drawn0.refl _ | apply Drawn0.step)⟩
/-! ### F44: function 77 -/
def F44.f (a0_0 : ByteArray) (l0_1 : List (S66)) : Option (Bool) := if a0_0.toList = ([] : List UInt8) then (some ((l0_1.length : Int) == 0)) else (some false)
set_option maxHeartbeats 8000000 in
set_option maxRecDepth 100000 in
theorem F44.calls (a0_0 : ByteArray) (A0_1 : Option Addr) (c0_1 : Nat) (l0_1 : List (S66)) (r : Bool) (w : World) (hr0_1 : Kd.C k66 w A0_1 l0_1.length l0_1) (hc0_1 : l0_1.length ≤ c0_1) (h : F44.f a0_0 l0_1 = some r) :
 Calls Try.prog 77 #[.agg #[.string a0_0, .slice A0_1 l0_1.length c0_1]] w fun e w' => e = .returned (.bool r) ∧ Below w.heap.size w w' := by
 have hu31 := Try.underlying31
 have HR0_1 := zm hr0_1
 have HC0_1 := zm hc0_1
 clear hr0_1 hc0_1
 have HB := zm (Below.refl w.heap.size w)
 have H := h
 unfold F44.f at H
 clear h
 by_cases c2 : a0_0.toList = ([] : List UInt8)
 rotate_left
 ·rw [if_neg c2] at H
  have c2b0 := z2 c2
  have c2b1 := z4 c2
  obtain rfl := Option.some.inj H
  go_enter Try.func77, Try.ntmps77
  go_wp2_with (first | ((with_reducible refine gate_dst (N := 1) rfl ?_); (try (refine gate_guard (by rfl) ?_; dsimp only)); refine box_event (by rfl) (N := 1) (by rfl) (cs := #[.string a0_0, .slice A0_1 l0_1.length c0_1]) (t := 31) zgs ?_; intro gb107 hg w5 hbox hb; have BK107 := zm (hbox); have GW107 := zge hg (below_size (zh HB)); have GE107 := zge hg (below_size (zh HB)); replace HB := zm (below_step (zh HB) hb); clear hb hbox hg; obtain ⟨⟨_, _⟩, _, _⟩ := zc2 BK107))
  go_ret
  exact ⟨zre, zg HB⟩

 rw [if_pos c2] at H
 have c2b0 := z1 c2
 have c2b1 := z3 c2
 clear c2
 obtain rfl := Option.some.inj H
 go_enter Try.func77, Try.ntmps77
 go_wp2_with (first | ((with_reducible refine gate_dst (N := 1) rfl ?_); (try (refine gate_guard (by rfl) ?_; dsimp only)); refine box_event (by rfl) (N := 1) (by rfl) (cs := #[.string a0_0, .slice A0_1 l0_1.length c0_1]) (t := 31) zgs ?_; intro gb107 hg w3 hbox hb; have BK107 := zm (hbox); have GW107 := zge hg (below_size (zh HB)); have GE107 := zge hg (below_size (zh HB)); replace HB := zm (below_step (zh HB) hb); clear hb hbox hg; obtain ⟨⟨_, _⟩, _, _⟩ := zc2 BK107))
 go_ret
 exact ⟨zre, zg HB⟩
/-! ### F14: function 46 -/
def F14.j0 : Nat → Bool → Int → Int → ByteArray → ByteArray → List (S66) → Option (Bool)
 | 0, _, _, _, _, _, _ => none
 | k + 1, x10, x109000, x109001, x109002, x109003, x109004 => if x10 = true then (some false) else (if x109000 = 1 then (if x109002.toList = ([] : List UInt8) then ((F27.f k x109003).bind fun t109 => (if t109 = true then ((F7.f k x109003 x109004).bind fun t110 => (some t110)) else (some false))) else (some false)) else (if x109000 = 2 then ((F27.f k x109002).bind fun t111 => (if t111 = true then ((F44.f x109003 x109004).bind fun t112 => (some t112)) else (some false))) else (some false)))
def F14.f (k : Nat) (a0_0 : Int) (a0_1 : Int) (a0_2 : ByteArray) (a0_3 : ByteArray) (l0_4 : List (S66)) : Option (Bool) := if a0_1 < 1 then (F14.j0 k true a0_0 a0_1 a0_2 a0_3 l0_4) else (F14.j0 k (decide (a0_1 > 4611686018427387903)) a0_0 a0_1 a0_2 a0_3 l0_4)
theorem F14.mono_l : ∀ k, (∀ y0 y1 y2 y3 y4 y5, LeO (F14.j0 k y0 y1 y2 y3 y4 y5) (F14.j0 (k + 1) y0 y1 y2 y3 y4 y5))
 | 0 => fun _ _ _ _ _ _ r h => by simp [F14.j0] at h
 | k + 1 => by
  have ih0 := F14.mono_l k
  ·intro y0 y1 y2 y3 y4 y5
   unfold F14.j0
   repeat' with_reducible first | exact ih0 _ _ _ _ _ _ | exact F7.mono _ _ _ | exact F27.mono _ _ | exact LeO.refl _ | exact LeO.none _ | refine LeO.ite ?_ ?_ | refine LeO.bind ?_ (fun _ => ?_)
theorem F14.mono : ∀ a0 a1 a2 a3 a4 k, LeO (F14.f k a0 a1 a2 a3 a4) (F14.f (k + 1) a0 a1 a2 a3 a4) := by
 intro a0 a1 a2 a3 a4 k
 have ih0 := F14.mono_l k
 unfold F14.f
 repeat' with_reducible first | exact ih0 _ _ _ _ _ _ | exact F7.mono _ _ _ | exact F27.mono _ _ | exact LeO.refl _ | exact LeO.none _ | refine LeO.ite ?_ ?_ | refine LeO.bind ?_ (fun _ => ?_)
set_option maxHeartbeats 8000000 in
set_option maxRecDepth 100000 in
theorem F14.calls (k : Nat) (a0_0 : Int) (a0_1 : Int) (a0_2 : ByteArray) (a0_3 : ByteArray) (A0_4 : Option Addr) (c0_4 : Nat) (l0_4 : List (S66)) (r : Bool) (w : World) (hr0_4 : Kd.C k66 w A0_4 l0_4.length l0_4) (hc0_4 : l0_4.length ≤ c0_4) (h : F14.f k a0_0 a0_1 a0_2 a0_3 l0_4 = some r) :
 Calls Try.prog 46 #[.agg #[.int .i64 a0_0, .int .i64 a0_1, .string a0_2, .string a0_3, .slice A0_4 l0_4.length c0_4]] w fun e w' => e = .returned (.bool r) ∧ Below w.heap.size w w' := by
 have hu47 := Try.underlying47
 have hu31 := Try.underlying31
 have HR0_4 := zm hr0_4
 have HC0_4 := zm hc0_4
 clear hr0_4 hc0_4
 have HB := zm (Below.refl w.heap.size w)
 have H := h
 unfold F14.f at H
 clear h
 have HC2 := zm H
 clear H
 go_enter Try.func46, Try.ntmps46
 go_upto_region 1 with (first | ((with_reducible refine gate_dst (N := 1) rfl ?_); refine box_event (by rfl) (N := 1) (by rfl) (cs := #[.int .i64 a0_0, .int .i64 a0_1, .string a0_2, .string a0_3, .slice A0_4 l0_4.length c0_4]) (t := 47) zgs ?_; intro gb108 hg w3 hbox hb; have BK108 := zm (hbox); have GW108 := zge hg (below_size (zh HB)); have GE108 := zge hg (below_size (zh HB)); replace HB := zm (below_step (zh HB) hb); clear hb hbox hg))
 (try simp only [Act.put, List.setIfInBounds_toArray, List.set_cons_zero, List.set_cons_succ])
 go_cut [10] (fun v10 wc => ∃ (kq : Nat) (x10_1 : Bool), v10 = .bool x10_1 ∧ Aside0 (F14.j0 kq x10_1 a0_0 a0_1 a0_2 a0_3 l0_4 = some r) ∧ Aside0 (kq ≤ k) ∧ Aside0 (wc.heap[gb108]? = some (.cells #[.int .i64 a0_0, .int .i64 a0_1, .string a0_2, .string a0_3, (.slice A0_4 l0_4.length c0_4)] 47 (0, 0))) ∧ Aside0 (Below w.heap.size w wc))
 case first =>
  have H := HC2.out
  clear HC2
  by_cases c4 : a0_1 < 1
  ·rw [if_pos c4] at H
   have c4b0 := decide_eq_true c4
   clear c4
   (first | rw [c4b0] | (simp only [i64_w, i32_w]; rw [c4b0]) | skip)
   have H' := zm H
   clear H
   obtain ⟨⟨_, _, _, _, _⟩, _, _, _, _, _⟩ := zc5 BK108
   go_wp2
   go_meet
   case rel => exact ⟨_, (true), (by first | rfl | (simp; done) | (simp [*]; done) | (generalize ByteArray.toList _ = l_; cases l_ <;> rfl)), H', ⟨by first | omega | exact Nat.le_refl _⟩, ⟨zb BK108⟩, ⟨zg HB⟩⟩
  rw [if_neg c4] at H
  have c4b0 := decide_eq_false c4
  clear c4
  (first | rw [c4b0] | (simp only [i64_w, i32_w]; rw [c4b0]) | skip)
  have H' := zm H
  clear H
  obtain ⟨⟨_, _, _, _, _⟩, _, _, _, _, _⟩ := zc5 BK108
  go_wp2
  go_meet
  case rel => exact ⟨_, (decide (a0_1 > 4611686018427387903)), (by first | rfl | (simp; done) | (simp [*]; done) | (generalize ByteArray.toList _ = l_; cases l_ <;> rfl)), H', ⟨by first | omega | exact Nat.le_refl _⟩, ⟨zb BK108⟩, ⟨zg HB⟩⟩
 case rest =>
  clear HC2
  obtain ⟨kq, x10_1, rfl, HA, HJ1, BK108, HB⟩ := hcut
  cases kq with
  | zero => exact absurd HA.out (by simp [F14.j0])
  | succ kj1 =>
   have H := HA.out
   clear HA
   simp only [F14.j0] at H
   by_cases c7 : x10_1 = true
   ·subst c7
    rw [if_pos rfl] at H
    obtain rfl := Option.some.inj H
    go_wp2
    go_ret
    exact ⟨zre, zg HB⟩
   replace c7 := Bool.eq_false_iff.mpr c7
   subst c7
   rw [if_neg (show ¬ (false = true) by decide)] at H
   by_cases c8 : a0_0 = 1
   rotate_left
   ·rw [if_neg c8] at H
    have c8b0 := z2 c8
    have c8b1 := z4 c8
    by_cases c18 : a0_0 = 2
    rotate_left
    ·rw [if_neg c18] at H
     have c18b0 := z2 c18
     have c18b1 := z4 c18
     obtain rfl := Option.some.inj H
     obtain ⟨⟨_, _, _, _, _⟩, _, _, _, _, _⟩ := zc5 BK108
     go_wp2
     go_ret
     exact ⟨zre, zg HB⟩

    rw [if_pos c18] at H
    have c18b0 := z1 c18
    have c18b1 := z3 c18
    clear c18
    replace H := zbi H
    obtain ⟨t111, A19, H⟩ := H
    try dsimp only at H
    by_cases c20 : t111 = true
    rotate_left
    ·replace c20 := Bool.eq_false_iff.mpr c20
     subst c20
     rw [if_neg (show ¬ (false = true) by decide)] at H
     obtain rfl := Option.some.inj H
     obtain ⟨⟨_, _, _, _, _⟩, _, _, _, _, _⟩ := zc5 BK108
     go_wp2_with (first | (go_at_call 76; (with_reducible refine (F27.calls kj1 a0_2 false _ A19.out).mono ?_); rintro e w' ⟨rfl, ⟨nd, rfl⟩⟩))
     go_ret
     exact ⟨zre, zg HB⟩
    subst c20
    rw [if_pos rfl] at H
    replace H := zbi H
    obtain ⟨t112, A21, H⟩ := H
    try dsimp only at H
    obtain rfl := Option.some.inj H
    obtain ⟨⟨_, _, _, _, _⟩, _, _, _, _, _⟩ := zc5 BK108
    go_wp2_with (first | (go_at_call 76; (with_reducible refine (F27.calls kj1 a0_2 true _ A19.out).mono ?_); rintro e w' ⟨rfl, ⟨nd, rfl⟩⟩) | (go_at_call 77; (with_reducible refine (F44.calls a0_3 _ _ l0_4 t112 _ ?side1 ?side2 A21.out).mono ?_); (case side1 => exact zC (Kd.C_below HR0_4.out (zg HB))); (case side2 => exact HC0_4.out); rintro e w23 ⟨rfl, hb⟩; replace BK108 := zbb BK108 hb; replace HB := zm (below_step (zg HB) hb); (try clear hb)))
    go_ret
    exact ⟨zre, zg HB⟩
   rw [if_pos c8] at H
   have c8b0 := z1 c8
   have c8b1 := z3 c8
   clear c8
   by_cases c9 : a0_2.toList = ([] : List UInt8)
   rotate_left
   ·rw [if_neg c9] at H
    have c9b0 := z2 c9
    have c9b1 := z4 c9
    obtain rfl := Option.some.inj H
    obtain ⟨⟨_, _, _, _, _⟩, _, _, _, _, _⟩ := zc5 BK108
    go_wp2
    go_ret
    exact ⟨zre, zg HB⟩
   rw [if_pos c9] at H
   have c9b0 := z1 c9
   have c9b1 := z3 c9
   clear c9
   replace H := zbi H
   obtain ⟨t109, A10, H⟩ := H
   try dsimp only at H
   by_cases c11 : t109 = true
   rotate_left
   ·replace c11 := Bool.eq_false_iff.mpr c11
    subst c11
    rw [if_neg (show ¬ (false = true) by decide)] at H
    obtain rfl := Option.some.inj H
    obtain ⟨⟨_, _, _, _, _⟩, _, _, _, _, _⟩ := zc5 BK108
    go_wp2_with (first | (go_at_call 76; (with_reducible refine (F27.calls kj1 a0_3 false _ A10.out).mono ?_); rintro e w' ⟨rfl, ⟨nd, rfl⟩⟩))
    go_ret
    exact ⟨zre, zg HB⟩
   subst c11
   rw [if_pos rfl] at H
   replace H := zbi H
   obtain ⟨t110, A12, H⟩ := H
   try dsimp only at H
   obtain rfl := Option.some.inj H
   obtain ⟨⟨_, _, _, _, _⟩, _, _, _, _, _⟩ := zc5 BK108
   go_wp2_with (first | (go_at_call 76; (with_reducible refine (F27.calls kj1 a0_3 true _ A10.out).mono ?_); rintro e w' ⟨rfl, ⟨nd, rfl⟩⟩) | (go_at_call 35; (with_reducible refine (F7.calls kj1 a0_3 _ _ l0_4 t110 _ ?side1 ?side2 A12.out).mono ?_); (case side1 => exact zC (Kd.C_below HR0_4.out (zg HB))); (case side2 => exact HC0_4.out); rintro e w14 ⟨rfl, hb⟩; replace BK108 := zbb BK108 hb; replace HB := zm (below_step (zg HB) hb); (try clear hb)))
   go_ret
   exact ⟨zre, zg HB⟩
/-! ### F13: function 63 -/
def F13.f : Nat → Int → Option (List Int)
 | 0, _ => none
 | k + 1, a0 => if a0 < 128 then (some (([(a0) % 256] : List Int))) else ((some (([(wrap64 (128 + (Int.tmod a0 128))) % 256] : List Int) : List Int)).bind fun y116 => ((F13.f k (wrap64 (Int.tdiv a0 128))).bind fun t119 => (if y116.length + t119.length < 140737488355328 then (some (y116 ++ t119)) else (none))))
theorem F13.mono_l : ∀ k, (∀ y0, LeO (F13.f k y0) (F13.f (k + 1) y0))
 | 0 => fun _ r h => by simp [F13.f] at h
 | k + 1 => by
  have ih0 := F13.mono_l k
  ·intro y0
   unfold F13.f
   repeat' with_reducible first | exact ih0 _ | exact LeO.refl _ | exact LeO.none _ | refine LeO.ite ?_ ?_ | refine LeO.bind ?_ (fun _ => ?_)
theorem F13.mono : ∀ a0 k, LeO (F13.f k a0) (F13.f (k + 1) a0) := by
 intro a0 k
 have ih0 := F13.mono_l k
 exact ih0 a0
set_option maxHeartbeats 8000000 in
set_option maxRecDepth 100000 in
theorem F13.calls (k : Nat) : ∀ (a0 : Int) (r : List Int) (w : World) (h : F13.f k a0 = some r),
 Calls Try.prog 63 #[.int .i64 a0] w fun e w' => ∃ v0_ : Value, e = .returned (v0_) ∧ Kd.R (Kd.int .u8) 5 w' w.heap.size (fun _ => True) v0_ r ∧ Below w.heap.size w w' := by
 induction k using Nat.strongRecOn with
 | _ k ih =>
 intro a0 r w h
 cases k with
 | zero => exact absurd h (by simp [F13.f])
 | succ k =>
 simp only [F13.f] at h
 have HB := zm (Below.refl w.heap.size w)
 have H : (if a0 < 128 then (some (([(a0) % 256] : List Int))) else ((some (([(wrap64 (128 + (Int.tmod a0 128))) % 256] : List Int) : List Int)).bind fun y116 => ((F13.f k (wrap64 (Int.tdiv a0 128))).bind fun t119 => (if y116.length + t119.length < 140737488355328 then (some (y116 ++ t119)) else (none))))) = some r := h
 clear h
 by_cases c2 : a0 < 128
 ·rw [if_pos c2] at H
  have c2b0 := decide_eq_true c2
  clear c2
  obtain ⟨y113, hy113⟩ : ∃ y_ : List Int, y_ = (([(a0) % 256] : List Int)) := ⟨_, rfl⟩
  replace H : (some y113) = some r := zby hy113 H
  have Ny113 := zm hy113
  clear hy113
  obtain rfl := Option.some.inj H
  go_enter Try.func63, Try.ntmps63
  go_wp2_with (first | ((with_reducible refine gate_dst (N := 7) rfl ?_); refine Kd.R_lit (Kd.int .u8) _ 5 ?hg (N := 7) ?hd (xs := ([(a0) % 256] : List Int)) (inner := [.int .u8 ((a0) % 256)]) (ok := fun _ => True) (okp := fun _ => True) ?hr ?hp (fun _ hk => hk) trivial (Below.refl _ _) (Nat.le_refl _) (by simp) ?_; (case hd => rfl); (case hg => rfl); (case hr => first | (go_simp; done) | (go_simp; rfl)); (case hp => exact (Reps.one (show Kd.M (Kd.int .u8) _ _ _ ((a0) % 256) [.int .u8 ((a0) % 256)] from rfl) (Reps.none _ _))); intro v114 w3 ho4 hb hg_ hnew_; clear hg_ hnew_; (first | rw [← Ny113.out] at ho4 | (simp only [Int.reduceToNat] at ho4; rw [← Ny113.out] at ho4)); have HO115 := zm (Kd.R_lower ho4 (below_size (zh HB))); replace HB := zm (below_step (zh HB) hb); clear hb ho4))
  go_ret
  exact ⟨_, zre, by (with_reducible repeat (first | apply Kd.R_alloc | apply Kd.R_drewN | apply Kd.R_drew)); exact HO115.out, zh HB⟩
 rw [if_neg c2] at H
 have c2b0 := decide_eq_false c2
 clear c2
 obtain ⟨y116, hy116⟩ : ∃ y_ : List Int, y_ = (([(wrap64 (128 + (Int.tmod a0 128))) % 256] : List Int)) := ⟨_, rfl⟩
 replace H : ((F13.f k (wrap64 (Int.tdiv a0 128))).bind fun t119 => (if y116.length + t119.length < 140737488355328 then (some (y116 ++ t119)) else (none))) = some r := zby hy116 H
 have Ny116 := zm hy116
 clear hy116
 replace H := zbi H
 obtain ⟨t119, A5, H⟩ := H
 try dsimp only at H
 by_cases c6 : y116.length + t119.length < 140737488355328
 rotate_left
 ·rw [if_neg c6] at H
  exact absurd H (by simp)

 rw [if_pos c6] at H
 have LMc6 := zm c6
 clear c6
 obtain ⟨y122, hy122⟩ : ∃ y_ : List Int, y_ = (y116 ++ t119) := ⟨_, rfl⟩
 replace H : (some y122) = some r := zby hy122 H
 have Ny122 := zm hy122
 clear hy122
 obtain rfl := Option.some.inj H
 go_enter Try.func63, Try.ntmps63
 go_wp2_with (first | ((with_reducible refine gate_dst (N := 12) rfl ?_); refine Kd.R_lit (Kd.int .u8) _ 5 ?hg (N := 12) ?hd (xs := ([(wrap64 (128 + (Int.tmod a0 128))) % 256] : List Int)) (inner := [.int .u8 ((wrap64 (128 + (Int.tmod a0 128))) % 256)]) (ok := fun _ => True) (okp := fun _ => True) ?hr ?hp (fun _ hk => hk) trivial (Below.refl _ _) (Nat.le_refl _) (by simp) ?_; (case hd => rfl); (case hg => rfl); (case hr => first | (go_simp; done) | (go_simp; rfl)); (case hp => exact (Reps.one (show Kd.M (Kd.int .u8) _ _ _ ((wrap64 (128 + (Int.tmod a0 128))) % 256) [.int .u8 ((wrap64 (128 + (Int.tmod a0 128))) % 256)] from rfl) (Reps.none _ _))); intro v117 w7 ho8 hb hg_ hnew_; clear hg_ hnew_; (first | rw [← Ny116.out] at ho8 | (simp only [Int.reduceToNat] at ho8; rw [← Ny116.out] at ho8)); have HO118 := zm (Kd.R_lower ho8 (below_size (zh HB))); replace HB := zm (below_step (zh HB) hb); clear hb ho8) | ((with_reducible refine gate_callee (f := 63) rfl ?_); refine zgl 15 Try.func63 #[.int .i64 (wrap64 (Int.tdiv a0 128))] ?_; (with_reducible refine (ih k (by omega) (wrap64 (Int.tdiv a0 128)) t119 _ A5.out).mono ?_); rintro e w9 ⟨v120, rfl, ho0, hb⟩; refine ⟨_, rfl, ?_⟩; have HO121 := zm (Kd.R_lower (Kd.R_new' ho0 (Kd.R_lt (zr HO118))) (below_size (zh HB))); replace HO118 := zm (Kd.R_elder' (zr HO118) (Kd.R_base ho0) hb); replace HB := zm (below_step (zh HB) hb); (try clear hb ho0); obtain ⟨Ao12, co12, eo12⟩ := Kd.R_slice HO121.out; subst eo12) | ((with_reducible refine gate_builtin (b := .append) (xs := #[.tmp 12, .tmp 15]) rfl ?_); at_builtin; refine Kd.R_append_rows (Kd.int .u8) (w0 := w) w.heap.size rfl (.tmp 12) (.tmp 15) 26 5 (.int .u8 0) 1 rfl Try.underlying26 info5 rfl (by decide) (by omega) v117 y116 t119 _ _ _ (fun k_ => some k_ ≠ (.slice Ao12 t119.length co12 : Value).ownBlock) (fun _ => False) rfl rfl ?aO ?aR (fun _ _ h => h) (fun _ h => h.elim) ?aF ?aB ?aS ?aL ?_; (case aR => repeat (first | exact (Kd.R_reads' HO121.out).2.2 | (with_reducible refine Kd.C_alloc ?_ _) | (with_reducible refine Kd.C_drewN ?_ _) | (with_reducible refine Kd.C_drew ?_))); (case aB => exact (zh HB)); (case aF => exact (fun k_ hk => Kd.fresh' (Kd.R_lt (zr HO121)) k_ hk)); (case aO => exact (Kd.R_mono (zr HO118) (fun _ hk => hk.2))); (case aS => exact (below_size (zh HB))); (case aL => have := LMc6.out; omega); intro v123 w11 ho hb hg hat; rw [← Ny122.out] at ho; replace HO121 := zm (Kd.R_after (ok := (fun _ => True)) (zr HO121) hg hat); replace HB := zm (hb); have HO124 := zm (ho); clear HO118; clear ho hb hg hat))
 go_ret
 exact ⟨_, zre, Kd.R_mono (zr HO124) (fun _ hk => trivial), zh HB⟩
/-! ### F30: function 62 -/
def F30.f (k : Nat) (l0 : List Int) (a1 : ByteArray) : Option (List Int) := (F13.f k (a1.size : Int)).bind fun t125 => (if l0.length + t125.length < 140737488355328 then ((some (l0 ++ t125 : List Int)).bind fun y128 => (if y128.length + a1.size < 140737488355328 then (some (y128 ++ bytesOf a1)) else (none))) else (none))
theorem F30.mono : ∀ a0 a1 k, LeO (F30.f k a0 a1) (F30.f (k + 1) a0 a1) := by
 intro a0 a1 k
 unfold F30.f
 repeat' with_reducible first | exact F13.mono _ _ | exact LeO.refl _ | exact LeO.none _ | refine LeO.ite ?_ ?_ | refine LeO.bind ?_ (fun _ => ?_)
set_option maxHeartbeats 8000000 in
set_option maxRecDepth 100000 in
theorem F30.calls (k : Nat) (P0_ : Nat → Prop) (u9000_ : Value) (l0 : List Int) (a1 : ByteArray) (r : List Int) (w0 w : World) (hB : Below w0.heap.size w0 w) (ho0 : Kd.R (Kd.int .u8) 5 w w0.heap.size P0_ u9000_ l0) (h : F30.f k l0 a1 = some r) :
 Calls Try.prog 62 #[u9000_, .string a1] w fun e w' => ∃ v0_ : Value, e = .returned (v0_) ∧ Kd.R (Kd.int .u8) 5 w' w0.heap.size (fun k_ => (P0_ k_ ∨ w.heap.size ≤ k_)) v0_ r ∧ Below w0.heap.size w0 w' ∧ Kept w w' (fun k_ => P0_ k_) := by
 have HO0 := zm (show Kd.R (Kd.int .u8) 5 w w0.heap.size (fun k_ => (P0_ k_ ∨ w.heap.size ≤ k_)) u9000_ l0 from Kd.R_mono ho0 (fun k_ hk => (.inl hk)))
 have HK := zm (Kept.refl w (fun k_ => P0_ k_))
 have HW0 := zm hB.size
 have HB := zm hB
 clear hB
 have H := h
 unfold F30.f at H
 clear h
 replace H := zbi H
 obtain ⟨t125, A3, H⟩ := H
 try dsimp only at H
 by_cases c4 : l0.length + t125.length < 140737488355328
 rotate_left
 ·rw [if_neg c4] at H
  exact absurd H (by simp)

 rw [if_pos c4] at H
 have LMc4 := zm c4
 clear c4
 obtain ⟨y128, hy128⟩ : ∃ y_ : List Int, y_ = (l0 ++ t125) := ⟨_, rfl⟩
 replace H : (if y128.length + a1.size < 140737488355328 then (some (y128 ++ bytesOf a1)) else (none)) = some r := zby hy128 H
 have Ny128 := zm hy128
 clear hy128
 replace H := zif H
 obtain ⟨c5, H⟩ := H
 have LMc5 := zm c5
 clear c5
 obtain ⟨y131, hy131⟩ : ∃ y_ : List Int, y_ = (y128 ++ bytesOf a1) := ⟨_, rfl⟩
 replace H : (some y131) = some r := zby hy131 H
 have Ny131 := zm hy131
 clear hy131
 obtain rfl := Option.some.inj H
 go_enter Try.func62, Try.ntmps62
 go_wp2_with (first | ((with_reducible refine gate_callee (f := 63) rfl ?_); refine zgl 8 Try.func63 #[.int .i64 (a1.size : Int)] ?_; (with_reducible refine (F13.calls k (a1.size : Int) t125 _ A3.out).mono ?_); rintro e w6 ⟨v126, rfl, ho0, hb⟩; refine ⟨_, rfl, ?_⟩; have HO127 := zm (Kd.R_lower (Kd.R_new' (Kd.R_newM (M := fun k_ => (P0_ k_ ∨ w.heap.size ≤ k_)) ho0 (by first | exact HK.out.1 | exact (show Kept w _ (fun k_ => P0_ k_) from by repeat (first | (with_reducible first | exact HK.out | apply Kept.alloc | apply Kept.drewN | apply Kept.drew) | exact HK.out)).1) (fun k_ h_ => .inr h_)) (Kd.R_lt (zr HO0))) (below_size (zh HB))); replace HO0 := zm (Kd.R_elder' (zr HO0) (Kd.R_base ho0) hb); replace HK := zm (Kept.below (S := (fun k_ => P0_ k_)) (by repeat (first | (with_reducible first | exact HK.out | apply Kept.alloc | apply Kept.drewN | apply Kept.drew) | exact HK.out)) hb); replace HB := zm (below_step (zh HB) hb); (try clear hb ho0); obtain ⟨Ao9, co9, eo9⟩ := Kd.R_slice HO127.out; subst eo9) | ((with_reducible refine gate_builtin (b := .append) (xs := #[.tmp 5, .tmp 8]) rfl ?_); at_builtin; refine Kd.R_append_rows (Kd.int .u8) (w0 := w0) w0.heap.size rfl (.tmp 5) (.tmp 8) 26 5 (.int .u8 0) 1 rfl Try.underlying26 info5 rfl (by decide) (by omega) u9000_ l0 t125 _ _ _ (fun k_ => (P0_ k_ ∨ w.heap.size ≤ k_) ∧ some k_ ≠ (.slice Ao9 t125.length co9 : Value).ownBlock) (fun _ => False) rfl rfl ?aO ?aR (fun _ _ h => h) (fun _ h => h.elim) ?aF ?aB ?aS ?aL ?_; (case aR => repeat (first | exact (Kd.R_reads' HO127.out).2.2 | (with_reducible refine Kd.C_alloc ?_ _) | (with_reducible refine Kd.C_drewN ?_ _) | (with_reducible refine Kd.C_drew ?_))); (case aB => exact (zh HB)); (case aF => exact (fun k_ hk => ⟨(.inr (Nat.le_trans (by first | exact HK.out.1 | exact (show Kept w _ (fun k_ => P0_ k_) from by repeat (first | (with_reducible first | exact HK.out | apply Kept.alloc | apply Kept.drewN | apply Kept.drew) | exact HK.out)).1) hk)), Kd.fresh' (Kd.R_lt (zr HO127)) k_ hk⟩)); (case aO => exact (zr HO0)); (case aS => exact (below_size (zh HB))); (case aL => have := LMc4.out; omega); intro v129 w8 ho hb hg hat; rw [← Ny128.out] at ho; replace HO127 := zm (Kd.R_after (ok := (fun k_ => (P0_ k_ ∨ w.heap.size ≤ k_))) (Kd.R_mono (zr HO127) (fun _ hk => ⟨hk.1.1, hk.2⟩)) hg hat); replace HB := zm (hb); replace HK := zm (Kept.of_grown (S := (fun k_ => P0_ k_)) hg (by repeat (first | (with_reducible first | exact HK.out | apply Kept.alloc | apply Kept.drewN | apply Kept.drew) | exact HK.out)) (fun k_ e_ => (HO0.out.1 k_ e_).1)); have HO130 := zm (ho); clear HO0; clear ho hb hg hat) | (at_builtin; refine Kd.R_append_str (w0 := w0) w0.heap.size rfl (.tmp 9) _ 26 9 5 rfl Try.underlying26 Try.underlying9 info5 v129 y128 a1 (fun k_ => (P0_ k_ ∨ w.heap.size ≤ k_) ∧ some k_ ≠ (.slice Ao9 t125.length co9 : Value).ownBlock) rfl rfl ?aF ?aO ?aB ?aS ?aL ?_; (case aB => exact (zh HB)); (case aF => exact (fun k_ hk => ⟨(.inr (Nat.le_trans (by first | exact HK.out.1 | exact (show Kept w _ (fun k_ => P0_ k_) from by repeat (first | (with_reducible first | exact HK.out | apply Kept.alloc | apply Kept.drewN | apply Kept.drew) | exact HK.out)).1) hk)), Kd.fresh' (Kd.R_lt (zr HO127)) k_ hk⟩)); (case aO => exact (zr HO130)); (case aS => exact (below_size (zh HB))); (case aL => have := LMc5.out; omega); intro v132 w10 ho hb hg hat; rw [← Ny131.out] at ho; replace HO127 := zm (Kd.R_after (ok := (fun k_ => (P0_ k_ ∨ w.heap.size ≤ k_))) (zr HO127) hg hat); replace HB := zm (hb); replace HK := zm (Kept.of_grown (S := (fun k_ => P0_ k_)) hg (by repeat (first | (with_reducible first | exact HK.out | apply Kept.alloc | apply Kept.drewN | apply Kept.drew) | exact HK.out)) (fun k_ e_ => (HO130.out.1 k_ e_).1)); have HO133 := zm (ho); clear HO130; clear ho hb hg hat))
 go_ret
 exact ⟨_, zre, Kd.R_mono (zr HO133) (fun _ hk => hk.1), zh HB, by repeat (first | (with_reducible first | exact HK.out | apply Kept.alloc | apply Kept.drewN | apply Kept.drew) | exact HK.out)⟩
/-! ### F34: function 64 -/
def F34.f (k : Nat) (l0 : List Int) (a1 : Int) : Option (List Int) := if a1 < 0 then ((F13.f k (wrap64 ((wrap64 ((-2) * a1)) - 1))).bind fun t134 => (if l0.length + t134.length < 140737488355328 then (some (l0 ++ t134)) else (none))) else ((F13.f k (wrap64 (2 * a1))).bind fun t140 => (if l0.length + t140.length < 140737488355328 then (some (l0 ++ t140)) else (none)))
theorem F34.mono : ∀ a0 a1 k, LeO (F34.f k a0 a1) (F34.f (k + 1) a0 a1) := by
 intro a0 a1 k
 unfold F34.f
 repeat' with_reducible first | exact F13.mono _ _ | exact LeO.refl _ | exact LeO.none _ | refine LeO.ite ?_ ?_ | refine LeO.bind ?_ (fun _ => ?_)
set_option maxHeartbeats 8000000 in
set_option maxRecDepth 100000 in
theorem F34.calls (k : Nat) (P0_ : Nat → Prop) (u9000_ : Value) (l0 : List Int) (a1 : Int) (r : List Int) (w0 w : World) (hB : Below w0.heap.size w0 w) (ho0 : Kd.R (Kd.int .u8) 5 w w0.heap.size P0_ u9000_ l0) (h : F34.f k l0 a1 = some r) :
 Calls Try.prog 64 #[u9000_, .int .i64 a1] w fun e w' => ∃ v0_ : Value, e = .returned (v0_) ∧ Kd.R (Kd.int .u8) 5 w' w0.heap.size (fun k_ => (P0_ k_ ∨ w.heap.size ≤ k_)) v0_ r ∧ Below w0.heap.size w0 w' ∧ Kept w w' (fun k_ => P0_ k_) := by
 have HO0 := zm (show Kd.R (Kd.int .u8) 5 w w0.heap.size (fun k_ => (P0_ k_ ∨ w.heap.size ≤ k_)) u9000_ l0 from Kd.R_mono ho0 (fun k_ hk => (.inl hk)))
 have HK := zm (Kept.refl w (fun k_ => P0_ k_))
 have HW0 := zm hB.size
 have HB := zm hB
 clear hB
 have H := h
 unfold F34.f at H
 clear h
 by_cases c3 : a1 < 0
 rotate_left
 ·rw [if_neg c3] at H
  have c3b0 := decide_eq_false c3
  clear c3
  replace H := zbi H
  obtain ⟨t140, A10, H⟩ := H
  try dsimp only at H
  by_cases c11 : l0.length + t140.length < 140737488355328
  rotate_left
  ·rw [if_neg c11] at H
   exact absurd H (by simp)

  rw [if_pos c11] at H
  have LMc11 := zm c11
  clear c11
  obtain ⟨y143, hy143⟩ : ∃ y_ : List Int, y_ = (l0 ++ t140) := ⟨_, rfl⟩
  replace H : (some y143) = some r := zby hy143 H
  have Ny143 := zm hy143
  clear hy143
  obtain rfl := Option.some.inj H
  go_enter Try.func64, Try.ntmps64
  go_wp2_with (first | ((with_reducible refine gate_callee (f := 63) rfl ?_); refine zgl 16 Try.func63 #[.int .i64 (wrap64 (2 * a1))] ?_; (with_reducible refine (F13.calls k (wrap64 (2 * a1)) t140 _ A10.out).mono ?_); rintro e w12 ⟨v141, rfl, ho0, hb⟩; refine ⟨_, rfl, ?_⟩; have HO142 := zm (Kd.R_lower (Kd.R_new' (Kd.R_newM (M := fun k_ => (P0_ k_ ∨ w.heap.size ≤ k_)) ho0 (by first | exact HK.out.1 | exact (show Kept w _ (fun k_ => P0_ k_) from by repeat (first | (with_reducible first | exact HK.out | apply Kept.alloc | apply Kept.drewN | apply Kept.drew) | exact HK.out)).1) (fun k_ h_ => .inr h_)) (Kd.R_lt (zr HO0))) (below_size (zh HB))); replace HO0 := zm (Kd.R_elder' (zr HO0) (Kd.R_base ho0) hb); replace HK := zm (Kept.below (S := (fun k_ => P0_ k_)) (by repeat (first | (with_reducible first | exact HK.out | apply Kept.alloc | apply Kept.drewN | apply Kept.drew) | exact HK.out)) hb); replace HB := zm (below_step (zh HB) hb); (try clear hb ho0); obtain ⟨Ao15, co15, eo15⟩ := Kd.R_slice HO142.out; subst eo15) | ((with_reducible refine gate_builtin (b := .append) (xs := #[.tmp 13, .tmp 16]) rfl ?_); at_builtin; refine Kd.R_append_rows (Kd.int .u8) (w0 := w0) w0.heap.size rfl (.tmp 13) (.tmp 16) 26 5 (.int .u8 0) 1 rfl Try.underlying26 info5 rfl (by decide) (by omega) u9000_ l0 t140 _ _ _ (fun k_ => (P0_ k_ ∨ w.heap.size ≤ k_) ∧ some k_ ≠ (.slice Ao15 t140.length co15 : Value).ownBlock) (fun _ => False) rfl rfl ?aO ?aR (fun _ _ h => h) (fun _ h => h.elim) ?aF ?aB ?aS ?aL ?_; (case aR => repeat (first | exact (Kd.R_reads' HO142.out).2.2 | (with_reducible refine Kd.C_alloc ?_ _) | (with_reducible refine Kd.C_drewN ?_ _) | (with_reducible refine Kd.C_drew ?_))); (case aB => exact (zh HB)); (case aF => exact (fun k_ hk => ⟨(.inr (Nat.le_trans (by first | exact HK.out.1 | exact (show Kept w _ (fun k_ => P0_ k_) from by repeat (first | (with_reducible first | exact HK.out | apply Kept.alloc | apply Kept.drewN | apply Kept.drew) | exact HK.out)).1) hk)), Kd.fresh' (Kd.R_lt (zr HO142)) k_ hk⟩)); (case aO => exact (zr HO0)); (case aS => exact (below_size (zh HB))); (case aL => have := LMc11.out; omega); intro v144 w14 ho hb hg hat; rw [← Ny143.out] at ho; replace HO142 := zm (Kd.R_after (ok := (fun k_ => (P0_ k_ ∨ w.heap.size ≤ k_))) (Kd.R_mono (zr HO142) (fun _ hk => ⟨hk.1.1, hk.2⟩)) hg hat); replace HB := zm (hb); replace HK := zm (Kept.of_grown (S := (fun k_ => P0_ k_)) hg (by repeat (first | (with_reducible first | exact HK.out | apply Kept.alloc | apply Kept.drewN | apply Kept.drew) | exact HK.out)) (fun k_ e_ => (HO0.out.1 k_ e_).1)); have HO145 := zm (ho); clear HO0; clear ho hb hg hat))
  go_ret
  exact ⟨_, zre, Kd.R_mono (zr HO145) (fun _ hk => hk.1), zh HB, by repeat (first | (with_reducible first | exact HK.out | apply Kept.alloc | apply Kept.drewN | apply Kept.drew) | exact HK.out)⟩
 rw [if_pos c3] at H
 have c3b0 := decide_eq_true c3
 clear c3
 replace H := zbi H
 obtain ⟨t134, A4, H⟩ := H
 try dsimp only at H
 replace H := zif H
 obtain ⟨c5, H⟩ := H
 have LMc5 := zm c5
 clear c5
 obtain ⟨y137, hy137⟩ : ∃ y_ : List Int, y_ = (l0 ++ t134) := ⟨_, rfl⟩
 replace H : (some y137) = some r := zby hy137 H
 have Ny137 := zm hy137
 clear hy137
 obtain rfl := Option.some.inj H
 go_enter Try.func64, Try.ntmps64
 go_wp2_with (first | ((with_reducible refine gate_callee (f := 63) rfl ?_); refine zgl 11 Try.func63 #[.int .i64 (wrap64 ((wrap64 ((-2) * a1)) - 1))] ?_; (with_reducible refine (F13.calls k (wrap64 ((wrap64 ((-2) * a1)) - 1)) t134 _ A4.out).mono ?_); rintro e w6 ⟨v135, rfl, ho0, hb⟩; refine ⟨_, rfl, ?_⟩; have HO136 := zm (Kd.R_lower (Kd.R_new' (Kd.R_newM (M := fun k_ => (P0_ k_ ∨ w.heap.size ≤ k_)) ho0 (by first | exact HK.out.1 | exact (show Kept w _ (fun k_ => P0_ k_) from by repeat (first | (with_reducible first | exact HK.out | apply Kept.alloc | apply Kept.drewN | apply Kept.drew) | exact HK.out)).1) (fun k_ h_ => .inr h_)) (Kd.R_lt (zr HO0))) (below_size (zh HB))); replace HO0 := zm (Kd.R_elder' (zr HO0) (Kd.R_base ho0) hb); replace HK := zm (Kept.below (S := (fun k_ => P0_ k_)) (by repeat (first | (with_reducible first | exact HK.out | apply Kept.alloc | apply Kept.drewN | apply Kept.drew) | exact HK.out)) hb); replace HB := zm (below_step (zh HB) hb); (try clear hb ho0); obtain ⟨Ao9, co9, eo9⟩ := Kd.R_slice HO136.out; subst eo9) | ((with_reducible refine gate_builtin (b := .append) (xs := #[.tmp 7, .tmp 11]) rfl ?_); at_builtin; refine Kd.R_append_rows (Kd.int .u8) (w0 := w0) w0.heap.size rfl (.tmp 7) (.tmp 11) 26 5 (.int .u8 0) 1 rfl Try.underlying26 info5 rfl (by decide) (by omega) u9000_ l0 t134 _ _ _ (fun k_ => (P0_ k_ ∨ w.heap.size ≤ k_) ∧ some k_ ≠ (.slice Ao9 t134.length co9 : Value).ownBlock) (fun _ => False) rfl rfl ?aO ?aR (fun _ _ h => h) (fun _ h => h.elim) ?aF ?aB ?aS ?aL ?_; (case aR => repeat (first | exact (Kd.R_reads' HO136.out).2.2 | (with_reducible refine Kd.C_alloc ?_ _) | (with_reducible refine Kd.C_drewN ?_ _) | (with_reducible refine Kd.C_drew ?_))); (case aB => exact (zh HB)); (case aF => exact (fun k_ hk => ⟨(.inr (Nat.le_trans (by first | exact HK.out.1 | exact (show Kept w _ (fun k_ => P0_ k_) from by repeat (first | (with_reducible first | exact HK.out | apply Kept.alloc | apply Kept.drewN | apply Kept.drew) | exact HK.out)).1) hk)), Kd.fresh' (Kd.R_lt (zr HO136)) k_ hk⟩)); (case aO => exact (zr HO0)); (case aS => exact (below_size (zh HB))); (case aL => have := LMc5.out; omega); intro v138 w8 ho hb hg hat; rw [← Ny137.out] at ho; replace HO136 := zm (Kd.R_after (ok := (fun k_ => (P0_ k_ ∨ w.heap.size ≤ k_))) (Kd.R_mono (zr HO136) (fun _ hk => ⟨hk.1.1, hk.2⟩)) hg hat); replace HB := zm (hb); replace HK := zm (Kept.of_grown (S := (fun k_ => P0_ k_)) hg (by repeat (first | (with_reducible first | exact HK.out | apply Kept.alloc | apply Kept.drewN | apply Kept.drew) | exact HK.out)) (fun k_ e_ => (HO0.out.1 k_ e_).1)); have HO139 := zm (ho); clear HO0; clear ho hb hg hat))
 go_ret
 exact ⟨_, zre, Kd.R_mono (zr HO139) (fun _ hk => hk.1), zh HB, by repeat (first | (with_reducible first | exact HK.out | apply Kept.alloc | apply Kept.drewN | apply Kept.drew) | exact HK.out)⟩
/-! ### F10: function 36 -/
mutual
def F10.l0 : Nat → List Int → Int → ByteArray → List (S66) → Option (List Int)
 | 0, _, _, _, _ => none
 | k + 1, x3, x4, x147000, x147001 => if x4 < (x147001.length : Int) then (if 0 ≤ x4 then ((F30.f k x3 ((rd_T66 x147001 x4).f0)).bind fun t161 => ((F13.f k (((rd_T66 x147001 x4).f1).length : Int)).bind fun t164 => (if t161.length + t164.length < 140737488355328 then (F10.l1 k (t161 ++ t164) x4 0 x147000 x147001 ((rd_T66 x147001 x4).f0) ((rd_T66 x147001 x4).f1) ((rd_T66 x147001 x4).f2)) else (none)))) else (none)) else (some x3)
def F10.l1 : Nat → List Int → Int → Int → ByteArray → List (S66) → ByteArray → List ByteArray → List Int → Option (List Int)
 | 0, _, _, _, _, _, _, _, _ => none
 | k + 1, x3, x4, x6, x147000, x147001, x161000, x161001, x161002 => if x6 < (x161001.length : Int) then (if 0 ≤ x6 then ((F30.f k x3 (rdOf ByteArray.empty x161001 x6)).bind fun t171 => (F10.l1 k t171 x4 (wrap64 (x6 + 1)) x147000 x147001 x161000 x161001 x161002)) else (none)) else ((F13.f k (x161002.length : Int)).bind fun t174 => (if x3.length + t174.length < 140737488355328 then (F10.l2 k (x3 ++ t174) x4 0 x147000 x147001 x161000 x161001 x161002) else (none)))
def F10.l2 : Nat → List Int → Int → Int → ByteArray → List (S66) → ByteArray → List ByteArray → List Int → Option (List Int)
 | 0, _, _, _, _, _, _, _, _ => none
 | k + 1, x3, x4, x7, x147000, x147001, x161000, x161001, x161002 => if x7 < (x161002.length : Int) then (if 0 ≤ x7 then ((F34.f k x3 (rd x161002 x7)).bind fun t181 => (F10.l2 k t181 x4 (wrap64 (x7 + 1)) x147000 x147001 x161000 x161001 x161002)) else (none)) else (F10.l0 k x3 (wrap64 (x4 + 1)) x147000 x147001)
end
def F10.f (k : Nat) (a0_0 : ByteArray) (l0_1 : List (S66)) : Option (List Int) := (F30.f k (([] : List Int)) a0_0).bind fun t150 => ((F13.f k (l0_1.length : Int)).bind fun t153 => (if t150.length + t153.length < 140737488355328 then (F10.l0 k (t150 ++ t153) 0 a0_0 l0_1) else (none)))
theorem F10.mono_l : ∀ k, (∀ y0 y1 y2 y3, LeO (F10.l0 k y0 y1 y2 y3) (F10.l0 (k + 1) y0 y1 y2 y3)) ∧ (∀ y0 y1 y2 y3 y4 y5 y6 y7, LeO (F10.l1 k y0 y1 y2 y3 y4 y5 y6 y7) (F10.l1 (k + 1) y0 y1 y2 y3 y4 y5 y6 y7)) ∧ (∀ y0 y1 y2 y3 y4 y5 y6 y7, LeO (F10.l2 k y0 y1 y2 y3 y4 y5 y6 y7) (F10.l2 (k + 1) y0 y1 y2 y3 y4 y5 y6 y7))
 | 0 => ⟨fun _ _ _ _ r h => by simp [F10.l0] at h, fun _ _ _ _ _ _ _ _ r h => by simp [F10.l1] at h, fun _ _ _ _ _ _ _ _ r h => by simp [F10.l2] at h⟩
 | k + 1 => by
  obtain ⟨ih0, ih1, ih2⟩ := F10.mono_l k
  refine ⟨?_, ?_, ?_⟩
  all_goals intros
  all_goals first | unfold F10.l0 | unfold F10.l1 | unfold F10.l2
  all_goals
   repeat' with_reducible first | exact ih0 _ _ _ _ | exact ih1 _ _ _ _ _ _ _ _ | exact ih2 _ _ _ _ _ _ _ _ | exact F13.mono _ _ | exact F34.mono _ _ _ | exact F30.mono _ _ _ | exact LeO.refl _ | exact LeO.none _ | refine LeO.ite ?_ ?_ | refine LeO.bind ?_ (fun _ => ?_)
theorem F10.mono : ∀ a0 a1 k, LeO (F10.f k a0 a1) (F10.f (k + 1) a0 a1) := by
 intro a0 a1 k
 obtain ⟨ih0, ih1, ih2⟩ := F10.mono_l k
 unfold F10.f
 repeat' with_reducible first | exact ih0 _ _ _ _ | exact ih1 _ _ _ _ _ _ _ _ | exact ih2 _ _ _ _ _ _ _ _ | exact F13.mono _ _ | exact F34.mono _ _ _ | exact F30.mono _ _ _ | exact LeO.refl _ | exact LeO.none _ | refine LeO.ite ?_ ?_ | refine LeO.bind ?_ (fun _ => ?_)
set_option maxHeartbeats 8000000 in
set_option maxRecDepth 100000 in
theorem F10.calls (k : Nat) (a0_0 : ByteArray) (A0_1 : Option Addr) (c0_1 : Nat) (l0_1 : List (S66)) (r : List Int) (w : World) (hr0_1 : Kd.C k66 w A0_1 l0_1.length l0_1) (hc0_1 : l0_1.length ≤ c0_1) (h : F10.f k a0_0 l0_1 = some r) :
 Calls Try.prog 36 #[.agg #[.string a0_0, .slice A0_1 l0_1.length c0_1]] w fun e w' => ∃ v0_ : Value, e = .returned (v0_) ∧ Kd.R (Kd.int .u8) 5 w' w.heap.size (fun _ => True) v0_ r ∧ Below w.heap.size w w' := by
 have hu31 := Try.underlying31
 have hu66 := Try.underlying66
 have HR0_1 := zm hr0_1
 have HC0_1 := zm hc0_1
 clear hr0_1 hc0_1
 have HB := zm (Below.refl w.heap.size w)
 have H := h
 unfold F10.f at H
 clear h
 obtain ⟨y147, hy147⟩ : ∃ y_ : List Int, y_ = (([] : List Int)) := ⟨_, rfl⟩
 replace H : ((F30.f k y147 a0_0).bind fun t150 => ((F13.f k (l0_1.length : Int)).bind fun t153 => (if t150.length + t153.length < 140737488355328 then (F10.l0 k (t150 ++ t153) 0 a0_0 l0_1) else (none)))) = some r := zby hy147 H
 have Ny147 := zm hy147
 clear hy147
 replace H := zbi H
 obtain ⟨t150, A2, H⟩ := H
 try dsimp only at H
 replace H := zbi H
 obtain ⟨t153, A3, H⟩ := H
 try dsimp only at H
 by_cases c4 : t150.length + t153.length < 140737488355328
 rotate_left
 ·rw [if_neg c4] at H
  exact absurd H (by simp)

 rw [if_pos c4] at H
 have LMc4 := zm c4
 clear c4
 obtain ⟨y156, hy156⟩ : ∃ y_ : List Int, y_ = (t150 ++ t153) := ⟨_, rfl⟩
 replace H : (F10.l0 k y156 0 a0_0 l0_1) = some r := zby hy156 H
 have Ny156 := zm hy156
 clear hy156
 have H' := zm H
 clear H
 go_enter Try.func36, Try.ntmps36
 go_wp2_with (first | ((with_reducible refine gate_dst (N := 1) rfl ?_); refine box_event (by rfl) (N := 1) (by rfl) (cs := #[.string a0_0, .slice A0_1 l0_1.length c0_1]) (t := 31) zgs ?_; intro gb146 hg w5 hbox hb; have BK146 := zm (hbox); have GW146 := zge hg (below_size (zh HB)); have GE146 := zge hg (below_size (zh HB)); replace HB := zm (below_step (zh HB) hb); clear hb hbox hg) | ((with_reducible refine gate_dst (N := 8) rfl ?_); refine Kd.R_lit (Kd.int .u8) _ 5 ?hg (N := 8) ?hd (xs := ([] : List Int)) (inner := []) (ok := fun _ => True) (okp := fun _ => True) ?hr ?hp (fun _ hk => hk) trivial (Below.refl _ _) (Nat.le_refl _) (by simp) ?_; (case hd => rfl); (case hg => rfl); (case hr => first | (go_simp; done) | (go_simp; rfl)); (case hp => exact (Reps.none _ _)); intro v148 w6 ho7 hb hg_ hnew_; clear hg_ hnew_; (first | rw [← Ny147.out] at ho7 | (simp only [Int.reduceToNat] at ho7; rw [← Ny147.out] at ho7)); have HO149 := zm (Kd.R_lower ho7 (below_size (zg HB))); replace BK146 := zbb BK146 hb; replace HB := zm (below_step (zg HB) hb); clear hb ho7; obtain ⟨⟨hcz8_0, hcz8_1⟩, hfz8_0, hfz8_1⟩ := zc2 BK146; obtain ⟨Ao9, co9, eo9⟩ := Kd.R_slice HO149.out; subst eo9) | ((with_reducible refine gate_callee (f := 62) rfl ?_); refine zgl 11 Try.func62 #[.slice Ao9 y147.length co9, .string a0_0] ?_; (with_reducible refine (F30.calls k (fun k_ => some k_ = (.slice Ao9 y147.length co9 : Value).ownBlock) (.slice Ao9 y147.length co9) y147 a0_0 t150 w _ ?side1 ?side2 A2.out).mono ?_); (case side1 => exact zg HB); (case side2 => exact Kd.R_tight rfl HO149.out); rintro e w10 ⟨v151, rfl, ho0, hb, hkp⟩; refine ⟨_, rfl, ?_⟩; replace BK146 := zm (blk_kept (zb BK146) hkp (fun hs_ => (fun e_ => (Kd.R_ne HO149.out BK146.out (by decide)) e_) hs_)); have HO152 := zm (Kd.R_mono (ok' := fun k_ => True) ho0 (fun k_ hk_ => trivial)); replace HB := zm (hb); clear HO149; (try clear hb hkp ho0); obtain ⟨⟨hcz11_0, hcz11_1⟩, hfz11_0, hfz11_1⟩ := zc2 BK146) | ((with_reducible refine gate_callee (f := 63) rfl ?_); refine zgl 16 Try.func63 #[.int .i64 (l0_1.length : Int)] ?_; (with_reducible refine (F13.calls k (l0_1.length : Int) t153 _ A3.out).mono ?_); rintro e w12 ⟨v154, rfl, ho0, hb⟩; refine ⟨_, rfl, ?_⟩; have HO155 := zm (Kd.R_lower (Kd.R_new' ho0 (Kd.R_lt (zr HO152))) (below_size (zg HB))); replace HO152 := zm (Kd.R_elder' (zr HO152) (Kd.R_base ho0) hb); replace BK146 := zbb BK146 hb; replace HB := zm (below_step (zg HB) hb); (try clear hb ho0); obtain ⟨Ao15, co15, eo15⟩ := Kd.R_slice HO155.out; subst eo15) | ((with_reducible refine gate_builtin (b := .append) (xs := #[.tmp 12, .tmp 16]) rfl ?_); at_builtin; refine Kd.R_append_rows (Kd.int .u8) (w0 := w) w.heap.size rfl (.tmp 12) (.tmp 16) 26 5 (.int .u8 0) 1 rfl Try.underlying26 info5 rfl (by decide) (by omega) v151 t150 t153 _ _ _ (fun k_ => some k_ ≠ (.slice Ao15 t153.length co15 : Value).ownBlock) (fun _ => False) rfl rfl ?aO ?aR (fun _ _ h => h) (fun _ h => h.elim) ?aF ?aB ?aS ?aL ?_; (case aR => repeat (first | exact (Kd.R_reads' HO155.out).2.2 | (with_reducible refine Kd.C_alloc ?_ _) | (with_reducible refine Kd.C_drewN ?_ _) | (with_reducible refine Kd.C_drew ?_))); (case aB => exact (zg HB)); (case aF => exact (fun k_ hk => Kd.fresh' (Kd.R_lt (zr HO155)) k_ hk)); (case aO => exact (Kd.R_mono (zr HO152) (fun _ hk => hk.2))); (case aS => exact (below_size (zg HB))); (case aL => have := LMc4.out; omega); intro v157 w14 ho hb hg hat; rw [← Ny156.out] at ho; replace BK146 := zm (blk_grown (zb BK146) hg (Kd.R_ne HO152.out BK146.out (by decide))); replace HO155 := zm (Kd.R_after (ok := (fun _ => True)) (zr HO155) hg hat); replace HB := zm (hb); have HO158 := zm (ho); clear HO152; clear ho hb hg hat))
 go_loopg [3, 4] k (fun kq v3 v4 w' => ∃ (x3_1 : List Int) (x4_1 : Int), v4 = .int .i64 x4_1 ∧ Aside0 (F10.l0 kq x3_1 x4_1 a0_0 l0_1 = some r) ∧ Aside0 (kq ≤ k) ∧ Aside0 (Kd.R (Kd.int .u8) 5 w' w.heap.size (fun _ => True) v3 x3_1) ∧ Aside0 (w'.heap[gb146]? = some (.cells #[.string a0_0, (.slice A0_1 l0_1.length c0_1)] 31 (0, 0))) ∧ Aside0 (Below w.heap.size w w'))
 case atStart => exact ⟨(y156), (0), zrs, H', ⟨Nat.le_refl _⟩, ⟨Kd.R_mono (zr HO158) (fun _ hk => trivial)⟩, ⟨zb BK146⟩, ⟨zg HB⟩⟩
 case round =>
  clear H'
  try clear c4
  try clear hcz11_0 hcz11_1
  try clear hcz8_0 hcz8_1
  try clear hfz11_0 hfz11_1
  try clear hfz8_0 hfz8_1
  obtain ⟨x3_1, x4_1, rfl, HA, HK1, HO_3, BK146, HB⟩ := hrel
  cases gk with
  | zero => exact absurd HA.out (by simp [F10.l0])
  | succ k1 =>
   have H := HA.out
   clear HA
   simp only [F10.l0] at H
   by_cases c16 : x4_1 < (l0_1.length : Int)
   rotate_left
   ·rw [if_neg c16] at H
    have c16b0 := decide_eq_false c16
    clear c16
    obtain rfl := Option.some.inj H
    obtain ⟨⟨_, _⟩, _, _⟩ := zc2 BK146
    go_wp2
    go_ret
    exact ⟨_, zre, by (with_reducible repeat (first | apply Kd.R_alloc | apply Kd.R_drewN | apply Kd.R_drew)); exact HO_3.out, zg HB⟩
   rw [if_pos c16] at H
   have c16b0 := decide_eq_true c16
   clear c16
   replace H := zif H
   obtain ⟨c17, H⟩ := H
   have c17b0 := decide_eq_true c17
   clear c17
   replace H := zbi H
   obtain ⟨t161, A18, H⟩ := H
   try dsimp only at H
   replace H := zbi H
   obtain ⟨t164, A19, H⟩ := H
   try dsimp only at H
   replace H := zif H
   obtain ⟨c20, H⟩ := H
   have LMc20 := zm c20
   clear c20
   obtain ⟨y167, hy167⟩ : ∃ y_ : List Int, y_ = (t161 ++ t164) := ⟨_, rfl⟩
   replace H : (F10.l1 k1 y167 x4_1 0 a0_0 l0_1 ((rd_T66 l0_1 x4_1).f0) ((rd_T66 l0_1 x4_1).f1) ((rd_T66 l0_1 x4_1).f2)) = some r := zby hy167 H
   have Ny167 := zm hy167
   clear hy167
   have H' := zm H
   clear H
   obtain ⟨⟨hcz21_0, hcz21_1⟩, hfz21_0, hfz21_1⟩ := zc2 BK146
   have p159 : 0 ≤ (x4_1 : Int) := of_decide_eq_true zas
   have q159 : x4_1 < (l0_1.length : Int) := of_decide_eq_true zas
   obtain ⟨ad159, A159_1, c159_1, A159_2, c159_2, e159, hx159_0, hx159_1, hx159_2, hl159_1, hi159_1, hl159_2, hi159_2⟩ := at_T66 HR0_1.out x4_1 p159 q159
   cases e159
   replace hx159_0 := zx HB hx159_0
   replace hx159_1 := zx HB hx159_1
   replace hx159_2 := zx HB hx159_2
   have HR159_1 := zm hi159_1
   have HC159_1 := zm hl159_1
   clear hi159_1 hl159_1
   have HR159_2 := zm hi159_2
   have HC159_2 := zm hl159_2
   clear hi159_2 hl159_2
   replace p159 := eq_true p159
   replace q159 := eq_true q159
   go_wp2_with (first | ((with_reducible refine gate_dst (N := 5) rfl ?_); refine box_event (by rfl) (N := 5) (by rfl) (cs := #[.string (⟨#[]⟩ : ByteArray), .slice none 0 0, .slice none 0 0]) (t := 66) zgs ?_; intro gb160 hg w22 hbox hb; replace HO_3 := zm (Kd.R_below (zr HO_3) hb); have BK160 := zm (hbox); have GW160 := zge hg (below_size (zg HB)); have GE160 := zge hg (below_size (zg HB)); replace HB := zm (below_step (zg HB) hb); obtain ⟨NB146_160, NB160_146⟩ := znn hg (blk_lt (zb BK146)); replace BK146 := zbb BK146 hb; clear hb hbox hg; obtain ⟨_, _⟩ := zne NB160_146; obtain ⟨⟨hcz24_0, hcz24_1, hcz24_2⟩, hfz24_0, hfz24_1, hfz24_2⟩ := zc3 BK160) | ((with_reducible refine gate_store (t := 66) (p := 5) rfl ?_); refine store_event (t := 66) (p := 5) (v := ?vo_w25) (w1 := (((w22.setCell ⟨gb160, 0, none⟩ (.string ((rd_T66 l0_1 x4_1).f0))).setCell ⟨gb160, 1, none⟩ (.slice A159_1 ((rd_T66 l0_1 x4_1).f1).length c159_1)).setCell ⟨gb160, 2, none⟩ (.slice A159_2 ((rd_T66 l0_1 x4_1).f2).length c159_2))) ?hg ?ho ?hn ?hr ?_; (case ho => rfl); (case hg => rfl); (case hn => rfl); (case hr => first | (go_simp; done) | (go_simp; rfl)); intro w25 hw; have n0_ : Aside0 (Kd.R (Kd.int .u8) 5 w25 w.heap.size (fun _ => True) u3 x3_1) := ⟨(by rw [hw]; exact (by (with_reducible repeat (first | apply Kd.R_alloc | apply Kd.R_drewN | apply Kd.R_drew)); exact Kd.R_mono (Kd.R_far (p := ⟨gb160, 2, none⟩) (Kd.R_far (p := ⟨gb160, 1, none⟩) (Kd.R_far (p := ⟨gb160, 0, none⟩) (Kd.R_types HO_3.out BK160.out (by decide)) (fun _ hk => hk.2) (.string ((rd_T66 l0_1 x4_1).f0))) (fun _ hk => hk.2) (.slice A159_1 ((rd_T66 l0_1 x4_1).f1).length c159_1)) (fun _ hk => hk.2) (.slice A159_2 ((rd_T66 l0_1 x4_1).f2).length c159_2)) (fun _ hk => trivial)))⟩; have n1_ : Aside0 (w25.heap[gb146]? = some (.cells #[.string a0_0, .slice (some ad159) l0_1.length c0_1] 31 (0, 0))) := ⟨(by rw [hw]; exact (zp BK146))⟩; have n2_ : Aside0 (w25.heap[gb160]? = some (.cells #[.string ((rd_T66 l0_1 x4_1).f0), .slice A159_1 ((rd_T66 l0_1 x4_1).f1).length c159_1, .slice A159_2 ((rd_T66 l0_1 x4_1).f2).length c159_2] 66 (0, 0))) := ⟨(by rw [hw]; exact (zp BK160))⟩; have n3_ : Aside0 (Below w.heap.size w w25) := ⟨(by rw [hw]; exact (zg HB))⟩; clear hw; clear HO_3; clear BK146; clear BK160; clear HB; have HO_3 := n0_; have BK146 := n1_; have BK160 := n2_; have HB := n3_; clear n0_ n1_ n2_ n3_; obtain ⟨⟨hcz26_0, hcz26_1, hcz26_2⟩, hfz26_0, hfz26_1, hfz26_2⟩ := zc3 BK160; obtain ⟨Ao27, co27, eo27⟩ := Kd.R_slice HO_3.out; subst eo27) | ((with_reducible refine gate_callee (f := 62) rfl ?_); refine zgl 33 Try.func62 #[.slice Ao27 x3_1.length co27, .string ((rd_T66 l0_1 x4_1).f0)] ?_; (with_reducible refine (F30.calls k1 (fun k_ => some k_ = (.slice Ao27 x3_1.length co27 : Value).ownBlock) (.slice Ao27 x3_1.length co27) x3_1 ((rd_T66 l0_1 x4_1).f0) t161 w _ ?side1 ?side2 A18.out).mono ?_); (case side1 => exact zg HB); (case side2 => exact Kd.R_tight rfl HO_3.out); rintro e w28 ⟨v162, rfl, ho0, hb, hkp⟩; refine ⟨_, rfl, ?_⟩; replace BK146 := zm (blk_kept (zb BK146) hkp (fun hs_ => (fun e_ => (Kd.R_ne HO_3.out BK146.out (by decide)) e_) hs_)); replace BK160 := zm (blk_kept (zb BK160) hkp (fun hs_ => (fun e_ => (Kd.R_ne HO_3.out BK160.out (by decide)) e_) hs_)); have HO163 := zm (Kd.R_mono (ok' := fun k_ => True) ho0 (fun k_ hk_ => trivial)); replace HB := zm (hb); clear HO_3; (try clear hb hkp ho0); obtain ⟨⟨hcz29_0, hcz29_1, hcz29_2⟩, hfz29_0, hfz29_1, hfz29_2⟩ := zc3 BK160) | ((with_reducible refine gate_callee (f := 63) rfl ?_); refine zgl 38 Try.func63 #[.int .i64 (((rd_T66 l0_1 x4_1).f1).length : Int)] ?_; (with_reducible refine (F13.calls k1 (((rd_T66 l0_1 x4_1).f1).length : Int) t164 _ A19.out).mono ?_); rintro e w30 ⟨v165, rfl, ho0, hb⟩; refine ⟨_, rfl, ?_⟩; have HO166 := zm (Kd.R_lower (Kd.R_new' ho0 (Kd.R_lt (zr HO163))) (below_size (zg HB))); replace HO163 := zm (Kd.R_elder' (zr HO163) (Kd.R_base ho0) hb); replace BK146 := zbb BK146 hb; replace BK160 := zbb BK160 hb; replace HB := zm (below_step (zg HB) hb); (try clear hb ho0); obtain ⟨Ao33, co33, eo33⟩ := Kd.R_slice HO166.out; subst eo33) | ((with_reducible refine gate_builtin (b := .append) (xs := #[.tmp 34, .tmp 38]) rfl ?_); at_builtin; refine Kd.R_append_rows (Kd.int .u8) (w0 := w) w.heap.size rfl (.tmp 34) (.tmp 38) 26 5 (.int .u8 0) 1 rfl Try.underlying26 info5 rfl (by decide) (by omega) v162 t161 t164 _ _ _ (fun k_ => some k_ ≠ (.slice Ao33 t164.length co33 : Value).ownBlock) (fun _ => False) rfl rfl ?aO ?aR (fun _ _ h => h) (fun _ h => h.elim) ?aF ?aB ?aS ?aL ?_; (case aR => repeat (first | exact (Kd.R_reads' HO166.out).2.2 | (with_reducible refine Kd.C_alloc ?_ _) | (with_reducible refine Kd.C_drewN ?_ _) | (with_reducible refine Kd.C_drew ?_))); (case aB => exact (zg HB)); (case aF => exact (fun k_ hk => Kd.fresh' (Kd.R_lt (zr HO166)) k_ hk)); (case aO => exact (Kd.R_mono (zr HO163) (fun _ hk => hk.2))); (case aS => exact (below_size (zg HB))); (case aL => have := LMc20.out; omega); intro v168 w32 ho hb hg hat; rw [← Ny167.out] at ho; replace BK146 := zm (blk_grown (zb BK146) hg (Kd.R_ne HO163.out BK146.out (by decide))); replace BK160 := zm (blk_grown (zb BK160) hg (Kd.R_ne HO163.out BK160.out (by decide))); replace HO166 := zm (Kd.R_after (ok := (fun _ => True)) (zr HO166) hg hat); replace HB := zm (hb); have HO169 := zm (ho); clear HO163; clear ho hb hg hat))
   go_loopg [3, 6] k1 (fun kq v3 v6 w' => ∃ (x3_2 : List Int) (x6_2 : Int), v6 = .int .i64 x6_2 ∧ Aside0 (F10.l1 kq x3_2 x4_1 x6_2 a0_0 l0_1 ((rd_T66 l0_1 x4_1).f0) ((rd_T66 l0_1 x4_1).f1) ((rd_T66 l0_1 x4_1).f2) = some r) ∧ Aside0 (kq ≤ k1) ∧ Aside0 (Kd.R (Kd.int .u8) 5 w' w.heap.size (fun _ => True) v3 x3_2) ∧ Aside0 (w'.heap[gb146]? = some (.cells #[.string a0_0, (.slice (some ad159) l0_1.length c0_1)] 31 (0, 0))) ∧ Aside0 (w'.heap[gb160]? = some (.cells #[.string ((rd_T66 l0_1 x4_1).f0), (.slice A159_1 ((rd_T66 l0_1 x4_1).f1).length c159_1), (.slice A159_2 ((rd_T66 l0_1 x4_1).f2).length c159_2)] 66 (0, 0))) ∧ Aside0 (Below w.heap.size w w'))
   case atStart => exact ⟨(y167), (0), zrs, H', ⟨Nat.le_refl _⟩, ⟨Kd.R_mono (zr HO169) (fun _ hk => trivial)⟩, ⟨zb BK146⟩, ⟨zb BK160⟩, ⟨zg HB⟩⟩
   case round =>
    clear H'
    try clear c4
    try clear c16
    try clear c16b0
    try clear c17
    try clear c17b0
    try clear c20
    try clear hcz11_0 hcz11_1
    try clear hcz21_0 hcz21_1
    try clear hcz24_0 hcz24_1 hcz24_2
    try clear hcz26_0 hcz26_1 hcz26_2
    try clear hcz29_0 hcz29_1 hcz29_2
    try clear hcz8_0 hcz8_1
    try clear hfz11_0 hfz11_1
    try clear hfz21_0 hfz21_1
    try clear hfz24_0 hfz24_1 hfz24_2
    try clear hfz26_0 hfz26_1 hfz26_2
    try clear hfz29_0 hfz29_1 hfz29_2
    try clear hfz8_0 hfz8_1
    try clear hx159_0
    try clear hx159_1
    try clear hx159_2
    try clear p159
    try clear q159
    obtain ⟨x3_2, x6_2, rfl, HA, HK2, HO_3, BK146, BK160, HB⟩ := hrel
    cases gk with
    | zero => exact absurd HA.out (by simp [F10.l1])
    | succ k2 =>
     have H := HA.out
     clear HA
     simp only [F10.l1] at H
     by_cases c34 : x6_2 < (((rd_T66 l0_1 x4_1).f1).length : Int)
     ·rw [if_pos c34] at H
      have c34b0 := decide_eq_true c34
      clear c34
      replace H := zif H
      obtain ⟨c35, H⟩ := H
      have c35b0 := decide_eq_true c35
      clear c35
      replace H := zbi H
      obtain ⟨t171, A36, H⟩ := H
      try dsimp only at H
      have H' := zm H
      clear H
      obtain ⟨_, _⟩ := zne NB160_146
      obtain ⟨⟨_, _, _⟩, _, _, _⟩ := zc3 BK160
      have p170 : 0 ≤ (x6_2 : Int) := of_decide_eq_true zas
      have q170 : x6_2 < (((rd_T66 l0_1 x4_1).f1).length : Int) := of_decide_eq_true zas
      obtain ⟨ad170, e170, hx170_0⟩ := Kd.at_string HR159_1.out x6_2 p170 q170
      cases e170
      replace hx170_0 := zx HB hx170_0
      replace p170 := eq_true p170
      replace q170 := eq_true q170
      obtain ⟨Ao39, co39, eo39⟩ := Kd.R_slice HO_3.out
      subst eo39
      go_wp2_with (first | ((with_reducible refine gate_callee (f := 62) rfl ?_); refine zgl 53 Try.func62 #[.slice Ao39 x3_2.length co39, .string (rdOf ByteArray.empty ((rd_T66 l0_1 x4_1).f1) x6_2)] ?_; (with_reducible refine (F30.calls k2 (fun k_ => some k_ = (.slice Ao39 x3_2.length co39 : Value).ownBlock) (.slice Ao39 x3_2.length co39) x3_2 (rdOf ByteArray.empty ((rd_T66 l0_1 x4_1).f1) x6_2) t171 w _ ?side1 ?side2 A36.out).mono ?_); (case side1 => exact zg HB); (case side2 => exact Kd.R_tight rfl HO_3.out); rintro e w40 ⟨v172, rfl, ho0, hb, hkp⟩; refine ⟨_, rfl, ?_⟩; replace BK146 := zm (blk_kept (zb BK146) hkp (fun hs_ => (fun e_ => (Kd.R_ne HO_3.out BK146.out (by decide)) e_) hs_)); replace BK160 := zm (blk_kept (zb BK160) hkp (fun hs_ => (fun e_ => (Kd.R_ne HO_3.out BK160.out (by decide)) e_) hs_)); have HO173 := zm (Kd.R_mono (ok' := fun k_ => True) ho0 (fun k_ hk_ => trivial)); replace HB := zm (hb); clear HO_3; (try clear hb hkp ho0)))
      go_roundg k2
      case measure => have := HK1.out; have := HK2.out; omega
      case rel => exact ⟨(t171), (wrap64 (x6_2 + 1)), zrs, H', ⟨by have := HK1.out; have := HK2.out; omega⟩, ⟨zr HO173⟩, ⟨zb BK146⟩, ⟨zb BK160⟩, ⟨zg HB⟩⟩
     rw [if_neg c34] at H
     have c34b0 := decide_eq_false c34
     clear c34
     replace H := zbi H
     obtain ⟨t174, A41, H⟩ := H
     try dsimp only at H
     replace H := zif H
     obtain ⟨c42, H⟩ := H
     have LMc42 := zm c42
     clear c42
     obtain ⟨y177, hy177⟩ : ∃ y_ : List Int, y_ = (x3_2 ++ t174) := ⟨_, rfl⟩
     replace H : (F10.l2 k2 y177 x4_1 0 a0_0 l0_1 ((rd_T66 l0_1 x4_1).f0) ((rd_T66 l0_1 x4_1).f1) ((rd_T66 l0_1 x4_1).f2)) = some r := zby hy177 H
     have Ny177 := zm hy177
     clear hy177
     have H' := zm H
     clear H
     obtain ⟨_, _⟩ := zne NB160_146
     obtain ⟨⟨hcz44_0, hcz44_1, hcz44_2⟩, hfz44_0, hfz44_1, hfz44_2⟩ := zc3 BK160
     go_wp2_with (first | ((with_reducible refine gate_callee (f := 63) rfl ?_); refine zgl 58 Try.func63 #[.int .i64 (((rd_T66 l0_1 x4_1).f2).length : Int)] ?_; (with_reducible refine (F13.calls k2 (((rd_T66 l0_1 x4_1).f2).length : Int) t174 _ A41.out).mono ?_); rintro e w45 ⟨v175, rfl, ho0, hb⟩; refine ⟨_, rfl, ?_⟩; have HO176 := zm (Kd.R_lower (Kd.R_new' ho0 (Kd.R_lt (zr HO_3))) (below_size (zg HB))); replace HO_3 := zm (Kd.R_elder' (zr HO_3) (Kd.R_base ho0) hb); replace BK146 := zbb BK146 hb; replace BK160 := zbb BK160 hb; replace HB := zm (below_step (zg HB) hb); (try clear hb ho0); obtain ⟨Ao48, co48, eo48⟩ := Kd.R_slice HO176.out; subst eo48) | ((with_reducible refine gate_builtin (b := .append) (xs := #[.tmp 54, .tmp 58]) rfl ?_); at_builtin; refine Kd.R_append_rows (Kd.int .u8) (w0 := w) w.heap.size rfl (.tmp 54) (.tmp 58) 26 5 (.int .u8 0) 1 rfl Try.underlying26 info5 rfl (by decide) (by omega) u3 x3_2 t174 _ _ _ (fun k_ => some k_ ≠ (.slice Ao48 t174.length co48 : Value).ownBlock) (fun _ => False) rfl rfl ?aO ?aR (fun _ _ h => h) (fun _ h => h.elim) ?aF ?aB ?aS ?aL ?_; (case aR => repeat (first | exact (Kd.R_reads' HO176.out).2.2 | (with_reducible refine Kd.C_alloc ?_ _) | (with_reducible refine Kd.C_drewN ?_ _) | (with_reducible refine Kd.C_drew ?_))); (case aB => exact (zg HB)); (case aF => exact (fun k_ hk => Kd.fresh' (Kd.R_lt (zr HO176)) k_ hk)); (case aO => exact (Kd.R_mono (zr HO_3) (fun _ hk => hk.2))); (case aS => exact (below_size (zg HB))); (case aL => have := LMc42.out; omega); intro v178 w47 ho hb hg hat; rw [← Ny177.out] at ho; replace BK146 := zm (blk_grown (zb BK146) hg (Kd.R_ne HO_3.out BK146.out (by decide))); replace BK160 := zm (blk_grown (zb BK160) hg (Kd.R_ne HO_3.out BK160.out (by decide))); replace HO176 := zm (Kd.R_after (ok := (fun _ => True)) (zr HO176) hg hat); replace HB := zm (hb); have HO179 := zm (ho); clear HO_3; clear ho hb hg hat))
     go_loopg [3, 7] k2 (fun kq v3 v7 w' => ∃ (x3_3 : List Int) (x7_3 : Int), v7 = .int .i64 x7_3 ∧ Aside0 (F10.l2 kq x3_3 x4_1 x7_3 a0_0 l0_1 ((rd_T66 l0_1 x4_1).f0) ((rd_T66 l0_1 x4_1).f1) ((rd_T66 l0_1 x4_1).f2) = some r) ∧ Aside0 (kq ≤ k2) ∧ Aside0 (Kd.R (Kd.int .u8) 5 w' w.heap.size (fun _ => True) v3 x3_3) ∧ Aside0 (w'.heap[gb146]? = some (.cells #[.string a0_0, (.slice (some ad159) l0_1.length c0_1)] 31 (0, 0))) ∧ Aside0 (w'.heap[gb160]? = some (.cells #[.string ((rd_T66 l0_1 x4_1).f0), (.slice A159_1 ((rd_T66 l0_1 x4_1).f1).length c159_1), (.slice A159_2 ((rd_T66 l0_1 x4_1).f2).length c159_2)] 66 (0, 0))) ∧ Aside0 (Below w.heap.size w w'))
     case atStart => exact ⟨(y177), (0), zrs, H', ⟨Nat.le_refl _⟩, ⟨Kd.R_mono (zr HO179) (fun _ hk => trivial)⟩, ⟨zb BK146⟩, ⟨zb BK160⟩, ⟨zg HB⟩⟩
     case round =>
      clear H'
      try clear c4
      try clear c16
      try clear c16b0
      try clear c17
      try clear c17b0
      try clear c20
      try clear c34
      try clear c34b0
      try clear c42
      try clear hcz11_0 hcz11_1
      try clear hcz21_0 hcz21_1
      try clear hcz24_0 hcz24_1 hcz24_2
      try clear hcz26_0 hcz26_1 hcz26_2
      try clear hcz29_0 hcz29_1 hcz29_2
      try clear hcz44_0 hcz44_1 hcz44_2
      try clear hcz8_0 hcz8_1
      try clear hfz11_0 hfz11_1
      try clear hfz21_0 hfz21_1
      try clear hfz24_0 hfz24_1 hfz24_2
      try clear hfz26_0 hfz26_1 hfz26_2
      try clear hfz29_0 hfz29_1 hfz29_2
      try clear hfz44_0 hfz44_1 hfz44_2
      try clear hfz8_0 hfz8_1
      try clear hx159_0
      try clear hx159_1
      try clear hx159_2
      try clear p159
      try clear q159
      obtain ⟨x3_3, x7_3, rfl, HA, HK3, HO_3, BK146, BK160, HB⟩ := hrel
      cases gk with
      | zero => exact absurd HA.out (by simp [F10.l2])
      | succ k3 =>
       have H := HA.out
       clear HA
       simp only [F10.l2] at H
       by_cases c49 : x7_3 < (((rd_T66 l0_1 x4_1).f2).length : Int)
       rotate_left
       ·rw [if_neg c49] at H
        have c49b0 := decide_eq_false c49
        clear c49
        have H' := zm H
        clear H
        obtain ⟨_, _⟩ := zne NB160_146
        obtain ⟨⟨_, _, _⟩, _, _, _⟩ := zc3 BK160
        go_wp2
        go_roundg k3
        case measure => have := HK1.out; have := HK2.out; have := HK3.out; omega
        case rel => exact ⟨(x3_3), (wrap64 (x4_1 + 1)), zrs, H', ⟨by have := HK1.out; have := HK2.out; have := HK3.out; omega⟩, ⟨zr HO_3⟩, ⟨zb BK146⟩, ⟨zg HB⟩⟩
       rw [if_pos c49] at H
       have c49b0 := decide_eq_true c49
       clear c49
       replace H := zif H
       obtain ⟨c50, H⟩ := H
       have c50b0 := decide_eq_true c50
       clear c50
       replace H := zbi H
       obtain ⟨t181, A51, H⟩ := H
       try dsimp only at H
       have H' := zm H
       clear H
       obtain ⟨_, _⟩ := zne NB160_146
       obtain ⟨⟨_, _, _⟩, _, _, _⟩ := zc3 BK160
       have p180 : 0 ≤ (x7_3 : Int) := of_decide_eq_true zas
       have q180 : x7_3 < (((rd_T66 l0_1 x4_1).f2).length : Int) := of_decide_eq_true zas
       obtain ⟨ad180, e180, hx180_0⟩ := Kd.at_int HR159_2.out x7_3 p180 q180
       cases e180
       replace hx180_0 := zx HB hx180_0
       replace p180 := eq_true p180
       replace q180 := eq_true q180
       obtain ⟨Ao54, co54, eo54⟩ := Kd.R_slice HO_3.out
       subst eo54
       go_wp2_with (first | ((with_reducible refine gate_callee (f := 64) rfl ?_); refine zgl 73 Try.func64 #[.slice Ao54 x3_3.length co54, .int .i64 (rd ((rd_T66 l0_1 x4_1).f2) x7_3)] ?_; (with_reducible refine (F34.calls k3 (fun k_ => some k_ = (.slice Ao54 x3_3.length co54 : Value).ownBlock) (.slice Ao54 x3_3.length co54) x3_3 (rd ((rd_T66 l0_1 x4_1).f2) x7_3) t181 w _ ?side1 ?side2 A51.out).mono ?_); (case side1 => exact zg HB); (case side2 => exact Kd.R_tight rfl HO_3.out); rintro e w55 ⟨v182, rfl, ho0, hb, hkp⟩; refine ⟨_, rfl, ?_⟩; replace BK146 := zm (blk_kept (zb BK146) hkp (fun hs_ => (fun e_ => (Kd.R_ne HO_3.out BK146.out (by decide)) e_) hs_)); replace BK160 := zm (blk_kept (zb BK160) hkp (fun hs_ => (fun e_ => (Kd.R_ne HO_3.out BK160.out (by decide)) e_) hs_)); have HO183 := zm (Kd.R_mono (ok' := fun k_ => True) ho0 (fun k_ hk_ => trivial)); replace HB := zm (hb); clear HO_3; (try clear hb hkp ho0)))
       go_roundg k3
       case measure => have := HK1.out; have := HK2.out; have := HK3.out; omega
       case rel => exact ⟨(t181), (wrap64 (x7_3 + 1)), zrs, H', ⟨by have := HK1.out; have := HK2.out; have := HK3.out; omega⟩, ⟨zr HO183⟩, ⟨zb BK146⟩, ⟨zb BK160⟩, ⟨zg HB⟩⟩
/-! ### F35: function 78 -/
def F35.f (a0 : Int) : Option (List Int) := some (([(wrap64 (Int.tdiv a0 16777216)) % 256, (Int.tmod (wrap64 (Int.tdiv a0 65536)) 256) % 256, (Int.tmod (wrap64 (Int.tdiv a0 256)) 256) % 256, (Int.tmod a0 256) % 256] : List Int))
set_option maxHeartbeats 8000000 in
set_option maxRecDepth 100000 in
theorem F35.calls (a0 : Int) (r : List Int) (w : World) (h : F35.f a0 = some r) :
 Calls Try.prog 78 #[.int .i64 a0] w fun e w' => ∃ v0_ : Value, e = .returned (v0_) ∧ Kd.R (Kd.int .u8) 5 w' w.heap.size (fun _ => True) v0_ r ∧ Below w.heap.size w w' := by
 have HB := zm (Below.refl w.heap.size w)
 have H := h
 unfold F35.f at H
 clear h
 obtain ⟨y184, hy184⟩ : ∃ y_ : List Int, y_ = (([(wrap64 (Int.tdiv a0 16777216)) % 256, (Int.tmod (wrap64 (Int.tdiv a0 65536)) 256) % 256, (Int.tmod (wrap64 (Int.tdiv a0 256)) 256) % 256, (Int.tmod a0 256) % 256] : List Int)) := ⟨_, rfl⟩
 replace H : (some y184) = some r := zby hy184 H
 have Ny184 := zm hy184
 clear hy184
 obtain rfl := Option.some.inj H
 go_enter Try.func78, Try.ntmps78
 go_wp2_with (first | ((with_reducible refine gate_dst (N := 17) rfl ?_); refine Kd.R_lit (Kd.int .u8) _ 5 ?hg (N := 17) ?hd (xs := ([(wrap64 (Int.tdiv a0 16777216)) % 256, (Int.tmod (wrap64 (Int.tdiv a0 65536)) 256) % 256, (Int.tmod (wrap64 (Int.tdiv a0 256)) 256) % 256, (Int.tmod a0 256) % 256] : List Int)) (inner := [.int .u8 ((wrap64 (Int.tdiv a0 16777216)) % 256), .int .u8 ((Int.tmod (wrap64 (Int.tdiv a0 65536)) 256) % 256), .int .u8 ((Int.tmod (wrap64 (Int.tdiv a0 256)) 256) % 256), .int .u8 ((Int.tmod a0 256) % 256)]) (ok := fun _ => True) (okp := fun _ => True) ?hr ?hp (fun _ hk => hk) trivial (Below.refl _ _) (Nat.le_refl _) (by simp) ?_; (case hd => rfl); (case hg => rfl); (case hr => first | (go_simp; done) | (go_simp; rfl)); (case hp => exact (Reps.one (show Kd.M (Kd.int .u8) _ _ _ ((wrap64 (Int.tdiv a0 16777216)) % 256) [.int .u8 ((wrap64 (Int.tdiv a0 16777216)) % 256)] from rfl) (Reps.one (show Kd.M (Kd.int .u8) _ _ _ ((Int.tmod (wrap64 (Int.tdiv a0 65536)) 256) % 256) [.int .u8 ((Int.tmod (wrap64 (Int.tdiv a0 65536)) 256) % 256)] from rfl) (Reps.one (show Kd.M (Kd.int .u8) _ _ _ ((Int.tmod (wrap64 (Int.tdiv a0 256)) 256) % 256) [.int .u8 ((Int.tmod (wrap64 (Int.tdiv a0 256)) 256) % 256)] from rfl) (Reps.one (show Kd.M (Kd.int .u8) _ _ _ ((Int.tmod a0 256) % 256) [.int .u8 ((Int.tmod a0 256) % 256)] from rfl) (Reps.none _ _)))))); intro v185 w2 ho3 hb hg_ hnew_; clear hg_ hnew_; (first | rw [← Ny184.out] at ho3 | (simp only [Int.reduceToNat] at ho3; rw [← Ny184.out] at ho3)); have HO186 := zm (Kd.R_lower ho3 (below_size (zh HB))); replace HB := zm (below_step (zh HB) hb); clear hb ho3))
 go_ret
 exact ⟨_, zre, by (with_reducible repeat (first | apply Kd.R_alloc | apply Kd.R_drewN | apply Kd.R_drew)); exact HO186.out, zh HB⟩

/-! ### F20: function 79 -/
def F20.l0 : Nat → List Int → Int → Int → Option (Int)
 | 0, _, _, _ => none
 | k + 1, x0, x3, x4 => if x4 < (x0.length : Int) then (if 0 ≤ x4 then (F20.l0 k x0 (Int.tmod (wrap64 ((Go.bits .xor .i64 x3 (wrap64 (rd x0 x4))) * 16777619)) 4294967296) (wrap64 (x4 + 1))) else (none)) else (some x3)
def F20.f (k : Nat) (l0 : List Int) : Option (Int) := if (l0.length : Int) > 1048576 then (some 0) else (F20.l0 k l0 2166136261 0)
theorem F20.mono_l : ∀ k, (∀ y0 y1 y2, LeO (F20.l0 k y0 y1 y2) (F20.l0 (k + 1) y0 y1 y2))
 | 0 => fun _ _ _ r h => by simp [F20.l0] at h
 | k + 1 => by
  have ih0 := F20.mono_l k
  ·intro y0 y1 y2
   unfold F20.l0
   repeat' with_reducible first | exact ih0 _ _ _ | exact LeO.refl _ | exact LeO.none _ | refine LeO.ite ?_ ?_ | refine LeO.bind ?_ (fun _ => ?_)
theorem F20.mono : ∀ a0 k, LeO (F20.f k a0) (F20.f (k + 1) a0) := by
 intro a0 k
 have ih0 := F20.mono_l k
 unfold F20.f
 repeat' with_reducible first | exact ih0 _ _ _ | exact LeO.refl _ | exact LeO.none _ | refine LeO.ite ?_ ?_ | refine LeO.bind ?_ (fun _ => ?_)
set_option maxHeartbeats 8000000 in
set_option maxRecDepth 100000 in
theorem F20.calls (k : Nat) (A0 : Option Addr) (c0 : Nat) (l0 : List Int) (r : Int) (w : World) (hr0 : Kd.C (Kd.int .u8) w A0 l0.length l0) (hc0 : l0.length ≤ c0) (h : F20.f k l0 = some r) :
 Calls Try.prog 79 #[.slice A0 l0.length c0] w fun e w' => e = .returned (.int .i64 r) ∧ Drawn0 w w' := by
 have HR0 := zm hr0
 have HC0 := zm hc0
 clear hr0 hc0
 have H := h
 unfold F20.f at H
 clear h
 by_cases c2 : (l0.length : Int) > 1048576
 ·rw [if_pos c2] at H
  have c2b0 := decide_eq_true c2
  have c2b1 : decide (1048576 < l0.length) = true := decide_eq_true (by omega)
  clear c2
  obtain rfl := Option.some.inj H
  go_enter Try.func79, Try.ntmps79
  go_wp2
  go_ret
  exact ⟨zrs, by repeat (first | exact Drawn0.refl _ | apply Drawn0.step)⟩
 rw [if_neg c2] at H
 have c2b0 := decide_eq_false c2
 have c2b1 : decide (1048576 < l0.length) = false := decide_eq_false (by omega)
 clear c2
 have H' := zm H
 clear H
 go_enter Try.func79, Try.ntmps79
 go_wp2
 go_loopg [3, 4] k (fun kq v3 v4 w' => ∃ (x3_1 : Int) (x4_1 : Int), v3 = .int .i64 x3_1 ∧ v4 = .int .i64 x4_1 ∧ Aside0 (F20.l0 kq l0 x3_1 x4_1 = some r) ∧ Aside0 (kq ≤ k) ∧ Drawn0 w w')
 case atStart => exact ⟨(2166136261), (0), zrs, zrs, H', ⟨Nat.le_refl _⟩, by repeat (first | exact Drawn0.refl _ | apply Drawn0.step)⟩
 case round =>
  clear H'
  try clear c2
  try clear c2b0
  try clear c2b1
  obtain ⟨x3_1, x4_1, rfl, rfl, HA, HK1, ⟨m1, rfl⟩⟩ := hrel
  cases gk with
  | zero => exact absurd HA.out (by simp [F20.l0])
  | succ k1 =>
   have H := HA.out
   clear HA
   simp only [F20.l0] at H
   by_cases c3 : x4_1 < (l0.length : Int)
   rotate_left
   ·rw [if_neg c3] at H
    have c3b0 := decide_eq_false c3
    clear c3
    obtain rfl := Option.some.inj H
    go_wp2
    go_ret
    exact ⟨zrs, by repeat (first | exact Drawn0.refl _ | apply Drawn0.step)⟩

   rw [if_pos c3] at H
   have c3b0 := decide_eq_true c3
   clear c3
   replace H := zif H
   obtain ⟨c4, H⟩ := H
   have c4b0 := decide_eq_true c4
   clear c4
   have H' := zm H
   clear H
   have p187 : 0 ≤ (x4_1 : Int) := of_decide_eq_true zas
   have q187 : x4_1 < (l0.length : Int) := of_decide_eq_true zas
   obtain ⟨ad187, e187, hx187_0⟩ := Kd.at_int HR0.out x4_1 p187 q187
   cases e187
   replace p187 := eq_true p187
   replace q187 := eq_true q187
   go_wp2
   go_roundg k1
   case measure => have := HK1.out; omega
   case rel => exact ⟨(Int.tmod (wrap64 ((Go.bits .xor .i64 x3_1 (wrap64 (rd l0 x4_1))) * 16777619)) 4294967296), (wrap64 (x4_1 + 1)), zrs, zrs, H', ⟨by have := HK1.out; omega⟩, by repeat (first | exact Drawn0.refl _ | apply Drawn0.step)⟩
def fl4_ (n m : Nat) : Array Bool := ((List.range n).map fun i => m.testBit i).toArray

/-! ### F24: function 47 -/
def F24.f (k : Nat) (a0_0 : Int) (a0_1 : Int) (a0_2 : ByteArray) (a0_3 : ByteArray) (l0_4 : List (S66)) : Option (List Int) := (some (([(a0_0) % 256] : List Int) : List Int)).bind fun y189 => ((F13.f k a0_1).bind fun t192 => (if y189.length + t192.length < 140737488355328 then ((some (y189 ++ t192 : List Int)).bind fun y195 => (if a0_0 = 1 then ((F10.f k a0_3 l0_4).bind fun t198 => (if y195.length + t198.length < 140737488355328 then ((some (y195 ++ t198 : List Int)).bind fun y201 => ((F13.f k (y201.length : Int)).bind fun t204 => (if t204.length + y201.length < 140737488355328 then ((some (t204 ++ y201 : List Int)).bind fun y207 => ((F20.f k y201).bind fun t210 => ((F35.f t210).bind fun t211 => (if y207.length + t211.length < 140737488355328 then (some (y207 ++ t211)) else (none))))) else (none)))) else (none))) else (if y195.length + a0_2.size < 140737488355328 then ((some (y195 ++ bytesOf a0_2 : List Int)).bind fun y217 => ((F13.f k (y217.length : Int)).bind fun t220 => (if t220.length + y217.length < 140737488355328 then ((some (t220 ++ y217 : List Int)).bind fun y223 => ((F20.f k y217).bind fun t226 => ((F35.f t226).bind fun t227 => (if y223.length + t227.length < 140737488355328 then (some (y223 ++ t227)) else (none))))) else (none)))) else (none)))) else (none)))
theorem F24.mono : ∀ a0 a1 a2 a3 a4 k, LeO (F24.f k a0 a1 a2 a3 a4) (F24.f (k + 1) a0 a1 a2 a3 a4) := by
 intro a0 a1 a2 a3 a4 k
 unfold F24.f
 repeat' with_reducible first | exact F20.mono _ _ | exact F13.mono _ _ | exact F10.mono _ _ _ | exact LeO.refl _ | exact LeO.none _ | refine LeO.ite ?_ ?_ | refine LeO.bind ?_ (fun _ => ?_)
def F24.T1 : Bool × List (List Nat × List Nat) := (true, [([], []), ([0], [0]), ([1], [1]), ([2], [2]), ([], []), ([4], [4]), ([5], [5]), ([3, 6, 6], [3, 6]), ([7, 7, 0, 1, 2, 3, 4, 5, 6, 7], [7])])
def F24.B1 : List Nat := [0, 1, 3, 7, 0, 16, 48, 127, 255]
theorem F24.tab1 : rtab .any (opsOf Try.f47 1) = F24.T1 := by kernel_rfl
theorem F24.bits1 : waitsOk F24.T1.2 F24.B1 = true := by kernel_rfl
set_option maxHeartbeats 8000000 in
set_option maxRecDepth 100000 in
theorem F24.calls (k : Nat) (a0_0 : Int) (a0_1 : Int) (a0_2 : ByteArray) (a0_3 : ByteArray) (A0_4 : Option Addr) (c0_4 : Nat) (l0_4 : List (S66)) (r : List Int) (w : World) (hr0_4 : Kd.C k66 w A0_4 l0_4.length l0_4) (hc0_4 : l0_4.length ≤ c0_4) (h : F24.f k a0_0 a0_1 a0_2 a0_3 l0_4 = some r) :
 Calls Try.prog 47 #[.agg #[.int .i64 a0_0, .int .i64 a0_1, .string a0_2, .string a0_3, .slice A0_4 l0_4.length c0_4]] w fun e w' => ∃ v0_ : Value, e = .returned (v0_) ∧ Kd.R (Kd.int .u8) 5 w' w.heap.size (fun _ => True) v0_ r ∧ Below w.heap.size w w' := by
 have hu47 := Try.underlying47
 have hu31 := Try.underlying31
 have HR0_4 := zm hr0_4
 have HC0_4 := zm hc0_4
 clear hr0_4 hc0_4
 have HB := zm (Below.refl w.heap.size w)
 have H := h
 unfold F24.f at H
 clear h
 obtain ⟨y189, hy189⟩ : ∃ y_ : List Int, y_ = (([(a0_0) % 256] : List Int)) := ⟨_, rfl⟩
 replace H : ((F13.f k a0_1).bind fun t192 => (if y189.length + t192.length < 140737488355328 then ((some (y189 ++ t192 : List Int)).bind fun y195 => (if a0_0 = 1 then ((F10.f k a0_3 l0_4).bind fun t198 => (if y195.length + t198.length < 140737488355328 then ((some (y195 ++ t198 : List Int)).bind fun y201 => ((F13.f k (y201.length : Int)).bind fun t204 => (if t204.length + y201.length < 140737488355328 then ((some (t204 ++ y201 : List Int)).bind fun y207 => ((F20.f k y201).bind fun t210 => ((F35.f t210).bind fun t211 => (if y207.length + t211.length < 140737488355328 then (some (y207 ++ t211)) else (none))))) else (none)))) else (none))) else (if y195.length + a0_2.size < 140737488355328 then ((some (y195 ++ bytesOf a0_2 : List Int)).bind fun y217 => ((F13.f k (y217.length : Int)).bind fun t220 => (if t220.length + y217.length < 140737488355328 then ((some (t220 ++ y217 : List Int)).bind fun y223 => ((F20.f k y217).bind fun t226 => ((F35.f t226).bind fun t227 => (if y223.length + t227.length < 140737488355328 then (some (y223 ++ t227)) else (none))))) else (none)))) else (none)))) else (none))) = some r := zby hy189 H
 have Ny189 := zm hy189
 clear hy189
 replace H := zbi H
 obtain ⟨t192, A2, H⟩ := H
 try dsimp only at H
 by_cases c3 : y189.length + t192.length < 140737488355328
 rotate_left
 ·rw [if_neg c3] at H
  exact absurd H (by simp)

 rw [if_pos c3] at H
 have LMc3 := zm c3
 clear c3
 obtain ⟨y195, hy195⟩ : ∃ y_ : List Int, y_ = (y189 ++ t192) := ⟨_, rfl⟩
 replace H : (if a0_0 = 1 then ((F10.f k a0_3 l0_4).bind fun t198 => (if y195.length + t198.length < 140737488355328 then ((some (y195 ++ t198 : List Int)).bind fun y201 => ((F13.f k (y201.length : Int)).bind fun t204 => (if t204.length + y201.length < 140737488355328 then ((some (t204 ++ y201 : List Int)).bind fun y207 => ((F20.f k y201).bind fun t210 => ((F35.f t210).bind fun t211 => (if y207.length + t211.length < 140737488355328 then (some (y207 ++ t211)) else (none))))) else (none)))) else (none))) else (if y195.length + a0_2.size < 140737488355328 then ((some (y195 ++ bytesOf a0_2 : List Int)).bind fun y217 => ((F13.f k (y217.length : Int)).bind fun t220 => (if t220.length + y217.length < 140737488355328 then ((some (t220 ++ y217 : List Int)).bind fun y223 => ((F20.f k y217).bind fun t226 => ((F35.f t226).bind fun t227 => (if y223.length + t227.length < 140737488355328 then (some (y223 ++ t227)) else (none))))) else (none)))) else (none))) = some r := zby hy195 H
 have Ny195 := zm hy195
 clear hy195
 by_cases c4 : a0_0 = 1
 rotate_left
 ·rw [if_neg c4] at H
  have c4b0 := z2 c4
  have c4b1 := z4 c4
  replace H := zif H
  obtain ⟨c34, H⟩ := H
  have LMc34 := zm c34
  clear c34
  obtain ⟨y217, hy217⟩ : ∃ y_ : List Int, y_ = (y195 ++ bytesOf a0_2) := ⟨_, rfl⟩
  replace H : ((F13.f k (y217.length : Int)).bind fun t220 => (if t220.length + y217.length < 140737488355328 then ((some (t220 ++ y217 : List Int)).bind fun y223 => ((F20.f k y217).bind fun t226 => ((F35.f t226).bind fun t227 => (if y223.length + t227.length < 140737488355328 then (some (y223 ++ t227)) else (none))))) else (none))) = some r := zby hy217 H
  have Ny217 := zm hy217
  clear hy217
  replace H := zbi H
  obtain ⟨t220, A35, H⟩ := H
  try dsimp only at H
  replace H := zif H
  obtain ⟨c36, H⟩ := H
  have LMc36 := zm c36
  clear c36
  obtain ⟨y223, hy223⟩ : ∃ y_ : List Int, y_ = (t220 ++ y217) := ⟨_, rfl⟩
  replace H : ((F20.f k y217).bind fun t226 => ((F35.f t226).bind fun t227 => (if y223.length + t227.length < 140737488355328 then (some (y223 ++ t227)) else (none)))) = some r := zby hy223 H
  have Ny223 := zm hy223
  clear hy223
  replace H := zbi H
  obtain ⟨t226, A37, H⟩ := H
  try dsimp only at H
  replace H := zbi H
  obtain ⟨t227, A38, H⟩ := H
  try dsimp only at H
  replace H := zif H
  obtain ⟨c39, H⟩ := H
  have LMc39 := zm c39
  clear c39
  obtain ⟨y230, hy230⟩ : ∃ y_ : List Int, y_ = (y223 ++ t227) := ⟨_, rfl⟩
  replace H : (some y230) = some r := zby hy230 H
  have Ny230 := zm hy230
  clear hy230
  obtain rfl := Option.some.inj H
  go_enter Try.func47, Try.ntmps47
  try go_wp2_with (first | ((with_reducible refine gate_dst (N := 1) rfl ?_); refine box_event (by rfl) (N := 1) (by rfl) (cs := #[.int .i64 a0_0, .int .i64 a0_1, .string a0_2, .string a0_3, .slice A0_4 l0_4.length c0_4]) (t := 47) zgs ?_; intro gb188 hg w40 hbox hb; have BK188 := zm (hbox); have GW188 := zge hg (below_size (zh HB)); have GE188 := zge hg (below_size (zh HB)); replace HB := zm (below_step (zh HB) hb); clear hb hbox hg))
  replace BK188 := zm (blk_drew BK188.out)
  replace HB := zm (below_drew1 HB.out)
  refine start_ (n := 9) (S := fun w' => w'.cell? ⟨gb188, 0, none⟩ = some (.int .i64 a0_0) ∧ w'.cell? ⟨gb188, 1, none⟩ = some (.int .i64 a0_1) ∧ w'.cell? ⟨gb188, 2, none⟩ = some (.string a0_2) ∧ w'.cell? ⟨gb188, 3, none⟩ = some (.string a0_3) ∧ w'.cell? ⟨gb188, 4, none⟩ = some (.slice A0_4 l0_4.length c0_4)) (ds := []) (fl4_ 9 0) (by kernel_rfl) rfl rfl ⟨zd BK188 0, zd BK188 1, zd BK188 2, zd BK188 3, zd BK188 4⟩ (fun hHeld => ?_); refine with_tabW F24.tab1 F24.bits1 (fun HT_ HW_ => ?_)
  generalize w40.drew = w41 at BK188 HB hHeld ⊢
  refine zpu HT_ 0 4 (fl4_ 9 1) ?_
  refine zpu HT_ 4 8 (fl4_ 9 17) ?_
  refine ztk HT_ HW_ 1 5 (fl4_ 9 19) hHeld ?_
  refine zpu HT_ 2 6 (fl4_ 9 23) ?_
  refine ztk HT_ HW_ 5 9 (fl4_ 9 55) hHeld ?_
  refine join_ (σ := Value × Value) 2 (fl4_ 9 127) (fun s_ => [(7, s_.1), (10, s_.2)]) (fun s_ w' => (w'.cell? ⟨gb188, 0, none⟩ = some (.int .i64 a0_0) ∧ w'.cell? ⟨gb188, 1, none⟩ = some (.int .i64 a0_1) ∧ w'.cell? ⟨gb188, 2, none⟩ = some (.string a0_2) ∧ w'.cell? ⟨gb188, 3, none⟩ = some (.string a0_3) ∧ w'.cell? ⟨gb188, 4, none⟩ = some (.slice A0_4 l0_4.length c0_4)) ∧ (Kd.R (Kd.int .u8) 5 w' w.heap.size (fun k_ => some k_ ≠ (s_.2 : Value).ownBlock) s_.1 y189) ∧ (Kd.R (Kd.int .u8) 5 w' w.heap.size (fun k_ => some k_ ≠ (s_.1 : Value).ownBlock) s_.2 t192) ∧ (w'.heap[gb188]? = some (.cells #[.int .i64 a0_0, .int .i64 a0_1, .string a0_2, .string a0_3, .slice A0_4 l0_4.length c0_4] 47 (0, 0))) ∧ (Below w.heap.size w w')) ?_ ?_
  rotate_left
  ·intro hCont
   refine two_ (i := 3) (j := 6) (Ni := some 7) (Nj := some 10) (fl4_ 9 63) (fl4_ 9 119) rfl rfl rfl rfl (two_of HT_.out (by kernel_rfl)) (by decide) (by decide) (fun K hK => ?_) (fun K hK => ?_)
   ·skip
    refine Kd.R_lit_step (Kd.int .u8) _ 5 ?hg (N := 7) ?hd (xs := ([(a0_0) % 256] : List Int)) (inner := [.int .u8 ((a0_0) % 256)]) (ok := fun _ => True) (okp := fun _ => True) ?hr ?hp (fun _ hk => hk) trivial (Below.refl _ _) (Nat.le_refl _) (by simp) ?_; (case hd => rfl); (case hg => rfl); (case hr => first | (go_simp; done) | (go_simp; rfl)); (case hp => exact (Reps.one (show Kd.M (Kd.int .u8) _ _ _ ((a0_0) % 256) [.int .u8 ((a0_0) % 256)] from rfl) (Reps.none _ _)))
    intro v190 w42 ho43 hb hg_ hnew_
    clear hg_ hnew_
    (first | rw [← Ny189.out] at ho43 | (simp only [Int.reduceToNat] at ho43; rw [← Ny189.out] at ho43))
    have HO191 := zm (Kd.R_lower ho43 (below_size (zg HB)))
    replace BK188 := zbb BK188 hb
    replace HB := zm (below_step (zg HB) hb)
    clear hb ho43
    refine hK.out _ _ ⟨zd BK188 0, zd BK188 1, zd BK188 2, zd BK188 3, zd BK188 4⟩ (fun hHeld => ?_)
    clear hK K
    refine norm_ zac ?_
    refine zon HT_ 6 10 (fl4_ 9 127) (fun K hK => ?_)
    refine goes_ Try.func63 (by kernel_rfl) rfl #[.int .i64 a0_1] (by rfl) rfl rfl zar ?_
    with_reducible refine (F13.calls k a0_1 t192 _ A2.out).mono ?_
    rintro e w44 ⟨v193, rfl, ho0, hb⟩
    refine ⟨_, rfl, ?_⟩
    have HO194 := zm (Kd.R_lower (Kd.R_new' ho0 (Kd.R_lt (zr HO191))) (below_size (zg HB)))
    replace HO191 := zm (Kd.R_elder' (zr HO191) (Kd.R_base ho0) hb)
    replace BK188 := zbb BK188 hb
    replace HB := zm (below_step (zg HB) hb)
    (try clear hb ho0)
    refine hK.out _ _ ⟨zd BK188 0, zd BK188 1, zd BK188 2, zd BK188 3, zd BK188 4⟩ (fun hHeld => ?_)
    clear hK K
    refine norm_ zac ?_
    exact norm_ zpa (hCont (v190, v193) _ ⟨hHeld, (Kd.R_mono (zr HO191) (fun _ hk => hk.2)), (Kd.R_mono (zr HO194) (fun _ hk => hk.2)), (zb BK188), (zg HB)⟩)
   ·skip
    refine goes_ Try.func63 (by kernel_rfl) rfl #[.int .i64 a0_1] (by rfl) rfl rfl zar ?_
    with_reducible refine (F13.calls k a0_1 t192 _ A2.out).mono ?_
    rintro e w42 ⟨v193, rfl, ho0, hb⟩
    refine ⟨_, rfl, ?_⟩
    have HO194 := zm (Kd.R_lower ho0 (below_size (zg HB)))
    replace BK188 := zbb BK188 hb
    replace HB := zm (below_step (zg HB) hb)
    (try clear hb ho0)
    refine hK.out _ _ ⟨zd BK188 0, zd BK188 1, zd BK188 2, zd BK188 3, zd BK188 4⟩ (fun hHeld => ?_)
    clear hK K
    refine norm_ zac ?_
    refine zon HT_ 3 7 (fl4_ 9 127) (fun K hK => ?_)
    refine Kd.R_lit_step (Kd.int .u8) _ 5 ?hg (N := 7) ?hd (xs := ([(a0_0) % 256] : List Int)) (inner := [.int .u8 ((a0_0) % 256)]) (ok := fun _ => True) (okp := fun _ => True) ?hr ?hp (fun _ hk => hk) trivial (Below.refl _ _) (Nat.le_refl _) (by simp) ?_; (case hd => rfl); (case hg => rfl); (case hr => first | (go_simp; done) | (go_simp; rfl)); (case hp => exact (Reps.one (show Kd.M (Kd.int .u8) _ _ _ ((a0_0) % 256) [.int .u8 ((a0_0) % 256)] from rfl) (Reps.none _ _)))
    intro v190 w44 ho45 hb hg_ hnew_
    clear hg_ hnew_
    (first | rw [← Ny189.out] at ho45 | (simp only [Int.reduceToNat] at ho45; rw [← Ny189.out] at ho45))
    have HO191 := zm (Kd.R_lower (Kd.R_new' ho45 (Kd.R_lt (zr HO194))) (below_size (zg HB)))
    replace HO194 := zm (Kd.R_elder' (zr HO194) (Kd.R_base ho45) hb)
    replace BK188 := zbb BK188 hb
    replace HB := zm (below_step (zg HB) hb)
    clear hb ho45
    refine hK.out _ _ ⟨zd BK188 0, zd BK188 1, zd BK188 2, zd BK188 3, zd BK188 4⟩ (fun hHeld => ?_)
    clear hK K
    refine norm_ zac ?_
    exact norm_ zpa (hCont (v190, v193) _ ⟨hHeld, (Kd.R_mono (zr HO191) (fun _ hk => hk.2)), (Kd.R_mono (zr HO194) (fun _ hk => hk.2)), (zb BK188), (zg HB)⟩)
  rintro ⟨v190, v193⟩ w46 ⟨hS_, h0_, h1_, h2_, h3_⟩
  have n0_ : Aside0 (Kd.R (Kd.int .u8) 5 w46 w.heap.size (fun k_ => some k_ ≠ (v193 : Value).ownBlock) v190 y189) := ⟨h0_⟩
  have n1_ : Aside0 (Kd.R (Kd.int .u8) 5 w46 w.heap.size (fun k_ => some k_ ≠ (v190 : Value).ownBlock) v193 t192) := ⟨h1_⟩
  have n2_ : Aside0 (w46.heap[gb188]? = some (.cells #[.int .i64 a0_0, .int .i64 a0_1, .string a0_2, .string a0_3, .slice A0_4 l0_4.length c0_4] 47 (0, 0))) := ⟨h2_⟩
  have n3_ : Aside0 (Below w.heap.size w w46) := ⟨h3_⟩
  clear BK188
  clear HB
  clear h0_ h1_ h2_ h3_
  have HO191 := n0_
  have HO194 := n1_
  have BK188 := n2_
  have HB := n3_
  clear n0_ n1_ n2_ n3_
  have hHeld : w46.cell? ⟨gb188, 0, none⟩ = some (.int .i64 a0_0) ∧ w46.cell? ⟨gb188, 1, none⟩ = some (.int .i64 a0_1) ∧ w46.cell? ⟨gb188, 2, none⟩ = some (.string a0_2) ∧ w46.cell? ⟨gb188, 3, none⟩ = some (.string a0_3) ∧ w46.cell? ⟨gb188, 4, none⟩ = some (.slice A0_4 l0_4.length c0_4) := hS_
  obtain ⟨Ao48, co48, eo48⟩ := Kd.R_slice HO194.out
  (first | subst eo48 | (injection eo48 with f1_ f2_ f3_; have f4_ := f1_.symm; have f5_ := f3_.symm; clear f1_ f2_ f3_; subst f4_; subst f5_))
  refine norm_ (a' := ?_) ?_ ?_
  rotate_left
  ·simp only [putAll, Act.put, List.setIfInBounds_toArray, List.set_cons_zero, List.set_cons_succ]
   rfl
  refine zon HT_ 7 11 (fl4_ 9 255) (fun K hK => ?_)
  refine Kd.R_append_rows_step (Kd.int .u8) (w0 := w) w.heap.size (by rfl) (.tmp 7) (.tmp 10) 26 5 (.int .u8 0) 1 rfl Try.underlying26 info5 rfl (by decide) (by omega) v190 y189 t192 _ _ _ (fun k_ => some k_ ≠ (.slice Ao48 t192.length co48 : Value).ownBlock) (fun _ => False) rfl rfl ?aO ?aR (fun _ _ h => h) (fun _ h => h.elim) ?aF ?aB ?aS ?aL ?_
  (case aR => repeat (first | exact (Kd.R_reads' HO194.out).2.2 | (with_reducible refine Kd.C_alloc ?_ _) | (with_reducible refine Kd.C_drewN ?_ _) | (with_reducible refine Kd.C_drew ?_)))
  (case aB => exact (zg HB))
  (case aF => exact (fun k_ hk => Kd.fresh' (Kd.R_lt (zr HO194)) k_ hk))
  (case aO => exact (zr HO191))
  (case aS => exact (below_size (zg HB)))
  (case aL => have := LMc3.out; omega)
  intro v196 w47 ho hb hg hat
  rw [← Ny195.out] at ho
  replace BK188 := zm (blk_grown (zb BK188) hg (Kd.R_ne HO191.out BK188.out (by decide)))
  replace HO194 := zm (Kd.R_after (ok := (fun _ => True)) (Kd.R_mono (zr HO194) (fun _ hk => ⟨trivial, hk⟩)) hg hat)
  replace HB := zm (hb)
  have HO197 := zm (ho)
  clear HO191
  clear ho hb hg hat
  refine hK.out _ _ ⟨zd BK188 0, zd BK188 1, zd BK188 2, zd BK188 3, zd BK188 4⟩ (fun hHeld => ?_)
  clear hK K
  refine norm_ zac ?_
  refine zpu HT_ 8 3 (fl4_ 9 511) ?_
  refine done_ (done_of HT_.out (by kernel_rfl)) ?_
  obtain ⟨⟨_, _, _, _, _⟩, _, _, _, _, _⟩ := zc5 BK188
  try go_wp2_with (first | (at_builtin; refine Kd.R_append_str (w0 := w) w.heap.size rfl (.tmp 20) _ 26 9 5 rfl Try.underlying26 Try.underlying9 info5 v196 y195 a0_2 (fun k_ => some k_ ≠ (.slice Ao48 t192.length co48 : Value).ownBlock) rfl rfl ?aF ?aO ?aB ?aS ?aL ?_; (case aB => exact (zg HB)); (case aF => exact (fun k_ hk => Kd.fresh' (Kd.R_lt (zr HO194)) k_ hk)); (case aO => exact (zr HO197)); (case aS => exact (below_size (zg HB))); (case aL => have := LMc34.out; omega); intro v218 w50 ho hb hg hat; rw [← Ny217.out] at ho; replace BK188 := zm (blk_grown (zb BK188) hg (Kd.R_ne HO197.out BK188.out (by decide))); replace HO194 := zm (Kd.R_after (ok := (fun _ => True)) (zr HO194) hg hat); replace HB := zm (hb); have HO219 := zm (ho); clear HO197; clear ho hb hg hat; obtain ⟨Ao51, co51, eo51⟩ := Kd.R_slice HO219.out; subst eo51) | ((with_reducible refine gate_callee (f := 63) rfl ?_); refine zgl 26 Try.func63 #[.int .i64 (y217.length : Int)] ?_; (with_reducible refine (F13.calls k (y217.length : Int) t220 _ A35.out).mono ?_); rintro e w52 ⟨v221, rfl, ho0, hb⟩; refine ⟨_, rfl, ?_⟩; have HO222 := zm (Kd.R_lower (Kd.R_new' (Kd.R_new' ho0 (Kd.R_lt (zr HO194))) (Kd.R_lt (zr HO219))) (below_size (zg HB))); replace HO194 := zm (Kd.R_elder' (zr HO194) (Kd.R_base ho0) hb); replace HO219 := zm (Kd.R_elder' (zr HO219) (Kd.R_base ho0) hb); replace BK188 := zbb BK188 hb; replace HB := zm (below_step (zg HB) hb); (try clear hb ho0)) | ((with_reducible refine gate_builtin (b := .append) (xs := #[.tmp 26, .tmp 27]) rfl ?_); at_builtin; refine Kd.R_append_rows (Kd.int .u8) (w0 := w) w.heap.size rfl (.tmp 26) (.tmp 27) 26 5 (.int .u8 0) 1 rfl Try.underlying26 info5 rfl (by decide) (by omega) v221 t220 y217 _ _ _ (fun k_ => some k_ ≠ (.slice Ao48 t192.length co48 : Value).ownBlock ∧ some k_ ≠ (.slice Ao51 y217.length co51 : Value).ownBlock) (fun _ => False) rfl rfl ?aO ?aR (fun _ _ h => h) (fun _ h => h.elim) ?aF ?aB ?aS ?aL ?_; (case aR => repeat (first | exact (Kd.R_reads' HO219.out).2.2 | (with_reducible refine Kd.C_alloc ?_ _) | (with_reducible refine Kd.C_drewN ?_ _) | (with_reducible refine Kd.C_drew ?_))); (case aB => exact (zg HB)); (case aF => exact (fun k_ hk => ⟨Kd.fresh' (Kd.R_lt (zr HO194)) k_ hk, Kd.fresh' (Kd.R_lt (zr HO219)) k_ hk⟩)); (case aO => exact (Kd.R_mono (zr HO222) (fun _ hk => ⟨hk.1.2, hk.2⟩))); (case aS => exact (below_size (zg HB))); (case aL => have := LMc36.out; omega); intro v224 w54 ho hb hg hat; rw [← Ny223.out] at ho; replace BK188 := zm (blk_grown (zb BK188) hg (Kd.R_ne HO222.out BK188.out (by decide))); replace HO194 := zm (Kd.R_after (ok := (fun k_ => some k_ ≠ (.slice Ao51 y217.length co51 : Value).ownBlock)) (Kd.R_mono (zr HO194) (fun _ hk => ⟨hk.1.2, hk.2⟩)) hg hat); replace HO219 := zm (Kd.R_after (ok := (fun k_ => some k_ ≠ (.slice Ao48 t192.length co48 : Value).ownBlock)) (zr HO219) hg hat); replace HB := zm (hb); have HO225 := zm (ho); clear HO222; clear ho hb hg hat) | ((with_reducible refine gate_callee (f := 79) rfl ?_); refine zgl 30 Try.func79 #[.slice Ao51 y217.length co51] ?_; (with_reducible refine (F20.calls k _ _ y217 t226 _ ?side1 ?side2 A37.out).mono ?_); (case side1 => exact zC (Kd.R_reads' HO219.out).2.2); (case side2 => exact (Kd.R_reads' HO219.out).2.1); rintro e w' ⟨rfl, ⟨nd, rfl⟩⟩; refine ⟨_, rfl, ?_⟩) | ((with_reducible refine gate_callee (f := 78) rfl ?_); refine zgl 31 Try.func78 #[.int .i64 t226] ?_; (with_reducible refine (F35.calls t226 t227 _ A38.out).mono ?_); rintro e w55 ⟨v228, rfl, ho0, hb⟩; refine ⟨_, rfl, ?_⟩; have HO229 := zm (Kd.R_lower (Kd.R_new' (Kd.R_new' (Kd.R_new' ho0 (Kd.R_lt (zr HO194))) (Kd.R_lt (zr HO219))) (Kd.R_lt (zr HO225))) (below_size (zg HB))); replace HO194 := zm (Kd.R_elder' (zr HO194) (Kd.R_base ho0) hb); replace HO219 := zm (Kd.R_elder' (zr HO219) (Kd.R_base ho0) hb); replace HO225 := zm (Kd.R_elder' (zr HO225) (Kd.R_base ho0) hb); replace BK188 := zbb BK188 hb; replace HB := zm (below_step (zg HB) hb); (try clear hb ho0); obtain ⟨Ao58, co58, eo58⟩ := Kd.R_slice HO229.out; subst eo58) | ((with_reducible refine gate_builtin (b := .append) (xs := #[.tmp 28, .tmp 31]) rfl ?_); at_builtin; refine Kd.R_append_rows (Kd.int .u8) (w0 := w) w.heap.size rfl (.tmp 28) (.tmp 31) 26 5 (.int .u8 0) 1 rfl Try.underlying26 info5 rfl (by decide) (by omega) v224 y223 t227 _ _ _ (fun k_ => some k_ ≠ (.slice Ao48 t192.length co48 : Value).ownBlock ∧ some k_ ≠ (.slice Ao51 y217.length co51 : Value).ownBlock ∧ some k_ ≠ (.slice Ao58 t227.length co58 : Value).ownBlock) (fun _ => False) rfl rfl ?aO ?aR (fun _ _ h => h) (fun _ h => h.elim) ?aF ?aB ?aS ?aL ?_; (case aR => repeat (first | exact (Kd.R_reads' HO229.out).2.2 | (with_reducible refine Kd.C_alloc ?_ _) | (with_reducible refine Kd.C_drewN ?_ _) | (with_reducible refine Kd.C_drew ?_))); (case aB => exact (zg HB)); (case aF => exact (fun k_ hk => ⟨Kd.fresh' (Kd.R_lt (zr HO194)) k_ hk, Kd.fresh' (Kd.R_lt (zr HO219)) k_ hk, Kd.fresh' (Kd.R_lt (zr HO229)) k_ hk⟩)); (case aO => exact (Kd.R_mono (zr HO225) (fun _ hk => ⟨hk.1.1, ⟨hk.1.2, hk.2⟩⟩))); (case aS => exact (below_size (zg HB))); (case aL => have := LMc39.out; omega); intro v231 w57 ho hb hg hat; rw [← Ny230.out] at ho; replace BK188 := zm (blk_grown (zb BK188) hg (Kd.R_ne HO225.out BK188.out (by decide))); replace HO194 := zm (Kd.R_after (ok := (fun k_ => some k_ ≠ (.slice Ao51 y217.length co51 : Value).ownBlock ∧ some k_ ≠ (.slice Ao58 t227.length co58 : Value).ownBlock)) (Kd.R_mono (zr HO194) (fun _ hk => ⟨⟨hk.1.1, hk.2⟩, hk.1.2⟩)) hg hat); replace HO219 := zm (Kd.R_after (ok := (fun k_ => some k_ ≠ (.slice Ao48 t192.length co48 : Value).ownBlock ∧ some k_ ≠ (.slice Ao58 t227.length co58 : Value).ownBlock)) (Kd.R_mono (zr HO219) (fun _ hk => ⟨⟨hk.1.1, hk.2⟩, hk.1.2⟩)) hg hat); replace HO229 := zm (Kd.R_after (ok := (fun k_ => some k_ ≠ (.slice Ao48 t192.length co48 : Value).ownBlock ∧ some k_ ≠ (.slice Ao51 y217.length co51 : Value).ownBlock)) (Kd.R_mono (zr HO229) (fun _ hk => ⟨⟨hk.1.1.2, hk.1.2⟩, hk.2⟩)) hg hat); replace HB := zm (hb); have HO232 := zm (ho); clear HO225; clear ho hb hg hat))
  go_ret
  exact ⟨_, zre, Kd.R_mono (zr HO232) (fun _ hk => trivial), zg HB⟩
 rw [if_pos c4] at H
 have c4b0 := z1 c4
 have c4b1 := z3 c4
 clear c4
 replace H := zbi H
 obtain ⟨t198, A5, H⟩ := H
 try dsimp only at H
 replace H := zif H
 obtain ⟨c6, H⟩ := H
 have LMc6 := zm c6
 clear c6
 obtain ⟨y201, hy201⟩ : ∃ y_ : List Int, y_ = (y195 ++ t198) := ⟨_, rfl⟩
 replace H : ((F13.f k (y201.length : Int)).bind fun t204 => (if t204.length + y201.length < 140737488355328 then ((some (t204 ++ y201 : List Int)).bind fun y207 => ((F20.f k y201).bind fun t210 => ((F35.f t210).bind fun t211 => (if y207.length + t211.length < 140737488355328 then (some (y207 ++ t211)) else (none))))) else (none))) = some r := zby hy201 H
 have Ny201 := zm hy201
 clear hy201
 replace H := zbi H
 obtain ⟨t204, A7, H⟩ := H
 try dsimp only at H
 replace H := zif H
 obtain ⟨c8, H⟩ := H
 have LMc8 := zm c8
 clear c8
 obtain ⟨y207, hy207⟩ : ∃ y_ : List Int, y_ = (t204 ++ y201) := ⟨_, rfl⟩
 replace H : ((F20.f k y201).bind fun t210 => ((F35.f t210).bind fun t211 => (if y207.length + t211.length < 140737488355328 then (some (y207 ++ t211)) else (none)))) = some r := zby hy207 H
 have Ny207 := zm hy207
 clear hy207
 replace H := zbi H
 obtain ⟨t210, A9, H⟩ := H
 try dsimp only at H
 replace H := zbi H
 obtain ⟨t211, A10, H⟩ := H
 try dsimp only at H
 replace H := zif H
 obtain ⟨c11, H⟩ := H
 have LMc11 := zm c11
 clear c11
 obtain ⟨y214, hy214⟩ : ∃ y_ : List Int, y_ = (y207 ++ t211) := ⟨_, rfl⟩
 replace H : (some y214) = some r := zby hy214 H
 have Ny214 := zm hy214
 clear hy214
 obtain rfl := Option.some.inj H
 go_enter Try.func47, Try.ntmps47
 try go_wp2_with (first | ((with_reducible refine gate_dst (N := 1) rfl ?_); refine box_event (by rfl) (N := 1) (by rfl) (cs := #[.int .i64 a0_0, .int .i64 a0_1, .string a0_2, .string a0_3, .slice A0_4 l0_4.length c0_4]) (t := 47) zgs ?_; intro gb188 hg w12 hbox hb; have BK188 := zm (hbox); have GW188 := zge hg (below_size (zh HB)); have GE188 := zge hg (below_size (zh HB)); replace HB := zm (below_step (zh HB) hb); clear hb hbox hg))
 replace BK188 := zm (blk_drew BK188.out)
 replace HB := zm (below_drew1 HB.out)
 refine start_ (n := 9) (S := fun w' => w'.cell? ⟨gb188, 0, none⟩ = some (.int .i64 a0_0) ∧ w'.cell? ⟨gb188, 1, none⟩ = some (.int .i64 a0_1) ∧ w'.cell? ⟨gb188, 2, none⟩ = some (.string a0_2) ∧ w'.cell? ⟨gb188, 3, none⟩ = some (.string a0_3) ∧ w'.cell? ⟨gb188, 4, none⟩ = some (.slice A0_4 l0_4.length c0_4)) (ds := []) (fl4_ 9 0) (by kernel_rfl) rfl rfl ⟨zd BK188 0, zd BK188 1, zd BK188 2, zd BK188 3, zd BK188 4⟩ (fun hHeld => ?_); refine with_tabW F24.tab1 F24.bits1 (fun HT_ HW_ => ?_)
 generalize w12.drew = w13 at BK188 HB hHeld ⊢
 refine zpu HT_ 0 4 (fl4_ 9 1) ?_
 refine zpu HT_ 4 8 (fl4_ 9 17) ?_
 refine ztk HT_ HW_ 1 5 (fl4_ 9 19) hHeld ?_
 refine zpu HT_ 2 6 (fl4_ 9 23) ?_
 refine ztk HT_ HW_ 5 9 (fl4_ 9 55) hHeld ?_
 refine join_ (σ := Value × Value) 2 (fl4_ 9 127) (fun s_ => [(7, s_.1), (10, s_.2)]) (fun s_ w' => (w'.cell? ⟨gb188, 0, none⟩ = some (.int .i64 a0_0) ∧ w'.cell? ⟨gb188, 1, none⟩ = some (.int .i64 a0_1) ∧ w'.cell? ⟨gb188, 2, none⟩ = some (.string a0_2) ∧ w'.cell? ⟨gb188, 3, none⟩ = some (.string a0_3) ∧ w'.cell? ⟨gb188, 4, none⟩ = some (.slice A0_4 l0_4.length c0_4)) ∧ (Kd.R (Kd.int .u8) 5 w' w.heap.size (fun k_ => some k_ ≠ (s_.2 : Value).ownBlock) s_.1 y189) ∧ (Kd.R (Kd.int .u8) 5 w' w.heap.size (fun k_ => some k_ ≠ (s_.1 : Value).ownBlock) s_.2 t192) ∧ (w'.heap[gb188]? = some (.cells #[.int .i64 a0_0, .int .i64 a0_1, .string a0_2, .string a0_3, .slice A0_4 l0_4.length c0_4] 47 (0, 0))) ∧ (Below w.heap.size w w')) ?_ ?_
 rotate_left
 ·intro hCont
  refine two_ (i := 3) (j := 6) (Ni := some 7) (Nj := some 10) (fl4_ 9 63) (fl4_ 9 119) rfl rfl rfl rfl (two_of HT_.out (by kernel_rfl)) (by decide) (by decide) (fun K hK => ?_) (fun K hK => ?_)
  ·skip
   refine Kd.R_lit_step (Kd.int .u8) _ 5 ?hg (N := 7) ?hd (xs := ([(a0_0) % 256] : List Int)) (inner := [.int .u8 ((a0_0) % 256)]) (ok := fun _ => True) (okp := fun _ => True) ?hr ?hp (fun _ hk => hk) trivial (Below.refl _ _) (Nat.le_refl _) (by simp) ?_; (case hd => rfl); (case hg => rfl); (case hr => first | (go_simp; done) | (go_simp; rfl)); (case hp => exact (Reps.one (show Kd.M (Kd.int .u8) _ _ _ ((a0_0) % 256) [.int .u8 ((a0_0) % 256)] from rfl) (Reps.none _ _)))
   intro v190 w14 ho15 hb hg_ hnew_
   clear hg_ hnew_
   (first | rw [← Ny189.out] at ho15 | (simp only [Int.reduceToNat] at ho15; rw [← Ny189.out] at ho15))
   have HO191 := zm (Kd.R_lower ho15 (below_size (zg HB)))
   replace BK188 := zbb BK188 hb
   replace HB := zm (below_step (zg HB) hb)
   clear hb ho15
   refine hK.out _ _ ⟨zd BK188 0, zd BK188 1, zd BK188 2, zd BK188 3, zd BK188 4⟩ (fun hHeld => ?_)
   clear hK K
   refine norm_ zac ?_
   refine zon HT_ 6 10 (fl4_ 9 127) (fun K hK => ?_)
   refine goes_ Try.func63 (by kernel_rfl) rfl #[.int .i64 a0_1] (by rfl) rfl rfl zar ?_
   with_reducible refine (F13.calls k a0_1 t192 _ A2.out).mono ?_
   rintro e w16 ⟨v193, rfl, ho0, hb⟩
   refine ⟨_, rfl, ?_⟩
   have HO194 := zm (Kd.R_lower (Kd.R_new' ho0 (Kd.R_lt (zr HO191))) (below_size (zg HB)))
   replace HO191 := zm (Kd.R_elder' (zr HO191) (Kd.R_base ho0) hb)
   replace BK188 := zbb BK188 hb
   replace HB := zm (below_step (zg HB) hb)
   (try clear hb ho0)
   refine hK.out _ _ ⟨zd BK188 0, zd BK188 1, zd BK188 2, zd BK188 3, zd BK188 4⟩ (fun hHeld => ?_)
   clear hK K
   refine norm_ zac ?_
   exact norm_ zpa (hCont (v190, v193) _ ⟨hHeld, (Kd.R_mono (zr HO191) (fun _ hk => hk.2)), (Kd.R_mono (zr HO194) (fun _ hk => hk.2)), (zb BK188), (zg HB)⟩)
  ·skip
   refine goes_ Try.func63 (by kernel_rfl) rfl #[.int .i64 a0_1] (by rfl) rfl rfl zar ?_
   with_reducible refine (F13.calls k a0_1 t192 _ A2.out).mono ?_
   rintro e w14 ⟨v193, rfl, ho0, hb⟩
   refine ⟨_, rfl, ?_⟩
   have HO194 := zm (Kd.R_lower ho0 (below_size (zg HB)))
   replace BK188 := zbb BK188 hb
   replace HB := zm (below_step (zg HB) hb)
   (try clear hb ho0)
   refine hK.out _ _ ⟨zd BK188 0, zd BK188 1, zd BK188 2, zd BK188 3, zd BK188 4⟩ (fun hHeld => ?_)
   clear hK K
   refine norm_ zac ?_
   refine zon HT_ 3 7 (fl4_ 9 127) (fun K hK => ?_)
   refine Kd.R_lit_step (Kd.int .u8) _ 5 ?hg (N := 7) ?hd (xs := ([(a0_0) % 256] : List Int)) (inner := [.int .u8 ((a0_0) % 256)]) (ok := fun _ => True) (okp := fun _ => True) ?hr ?hp (fun _ hk => hk) trivial (Below.refl _ _) (Nat.le_refl _) (by simp) ?_; (case hd => rfl); (case hg => rfl); (case hr => first | (go_simp; done) | (go_simp; rfl)); (case hp => exact (Reps.one (show Kd.M (Kd.int .u8) _ _ _ ((a0_0) % 256) [.int .u8 ((a0_0) % 256)] from rfl) (Reps.none _ _)))
   intro v190 w16 ho17 hb hg_ hnew_
   clear hg_ hnew_
   (first | rw [← Ny189.out] at ho17 | (simp only [Int.reduceToNat] at ho17; rw [← Ny189.out] at ho17))
   have HO191 := zm (Kd.R_lower (Kd.R_new' ho17 (Kd.R_lt (zr HO194))) (below_size (zg HB)))
   replace HO194 := zm (Kd.R_elder' (zr HO194) (Kd.R_base ho17) hb)
   replace BK188 := zbb BK188 hb
   replace HB := zm (below_step (zg HB) hb)
   clear hb ho17
   refine hK.out _ _ ⟨zd BK188 0, zd BK188 1, zd BK188 2, zd BK188 3, zd BK188 4⟩ (fun hHeld => ?_)
   clear hK K
   refine norm_ zac ?_
   exact norm_ zpa (hCont (v190, v193) _ ⟨hHeld, (Kd.R_mono (zr HO191) (fun _ hk => hk.2)), (Kd.R_mono (zr HO194) (fun _ hk => hk.2)), (zb BK188), (zg HB)⟩)
 rintro ⟨v190, v193⟩ w18 ⟨hS_, h0_, h1_, h2_, h3_⟩
 have n0_ : Aside0 (Kd.R (Kd.int .u8) 5 w18 w.heap.size (fun k_ => some k_ ≠ (v193 : Value).ownBlock) v190 y189) := ⟨h0_⟩
 have n1_ : Aside0 (Kd.R (Kd.int .u8) 5 w18 w.heap.size (fun k_ => some k_ ≠ (v190 : Value).ownBlock) v193 t192) := ⟨h1_⟩
 have n2_ : Aside0 (w18.heap[gb188]? = some (.cells #[.int .i64 a0_0, .int .i64 a0_1, .string a0_2, .string a0_3, .slice A0_4 l0_4.length c0_4] 47 (0, 0))) := ⟨h2_⟩
 have n3_ : Aside0 (Below w.heap.size w w18) := ⟨h3_⟩
 clear BK188
 clear HB
 clear h0_ h1_ h2_ h3_
 have HO191 := n0_
 have HO194 := n1_
 have BK188 := n2_
 have HB := n3_
 clear n0_ n1_ n2_ n3_
 have hHeld : w18.cell? ⟨gb188, 0, none⟩ = some (.int .i64 a0_0) ∧ w18.cell? ⟨gb188, 1, none⟩ = some (.int .i64 a0_1) ∧ w18.cell? ⟨gb188, 2, none⟩ = some (.string a0_2) ∧ w18.cell? ⟨gb188, 3, none⟩ = some (.string a0_3) ∧ w18.cell? ⟨gb188, 4, none⟩ = some (.slice A0_4 l0_4.length c0_4) := hS_
 obtain ⟨Ao20, co20, eo20⟩ := Kd.R_slice HO194.out
 (first | subst eo20 | (injection eo20 with f1_ f2_ f3_; have f4_ := f1_.symm; have f5_ := f3_.symm; clear f1_ f2_ f3_; subst f4_; subst f5_))
 refine norm_ (a' := ?_) ?_ ?_
 rotate_left
 ·simp only [putAll, Act.put, List.setIfInBounds_toArray, List.set_cons_zero, List.set_cons_succ]
  rfl
 refine zon HT_ 7 11 (fl4_ 9 255) (fun K hK => ?_)
 refine Kd.R_append_rows_step (Kd.int .u8) (w0 := w) w.heap.size (by rfl) (.tmp 7) (.tmp 10) 26 5 (.int .u8 0) 1 rfl Try.underlying26 info5 rfl (by decide) (by omega) v190 y189 t192 _ _ _ (fun k_ => some k_ ≠ (.slice Ao20 t192.length co20 : Value).ownBlock) (fun _ => False) rfl rfl ?aO ?aR (fun _ _ h => h) (fun _ h => h.elim) ?aF ?aB ?aS ?aL ?_
 (case aR => repeat (first | exact (Kd.R_reads' HO194.out).2.2 | (with_reducible refine Kd.C_alloc ?_ _) | (with_reducible refine Kd.C_drewN ?_ _) | (with_reducible refine Kd.C_drew ?_)))
 (case aB => exact (zg HB))
 (case aF => exact (fun k_ hk => Kd.fresh' (Kd.R_lt (zr HO194)) k_ hk))
 (case aO => exact (zr HO191))
 (case aS => exact (below_size (zg HB)))
 (case aL => have := LMc3.out; omega)
 intro v196 w19 ho hb hg hat
 rw [← Ny195.out] at ho
 replace BK188 := zm (blk_grown (zb BK188) hg (Kd.R_ne HO191.out BK188.out (by decide)))
 replace HO194 := zm (Kd.R_after (ok := (fun _ => True)) (Kd.R_mono (zr HO194) (fun _ hk => ⟨trivial, hk⟩)) hg hat)
 replace HB := zm (hb)
 have HO197 := zm (ho)
 clear HO191
 clear ho hb hg hat
 refine hK.out _ _ ⟨zd BK188 0, zd BK188 1, zd BK188 2, zd BK188 3, zd BK188 4⟩ (fun hHeld => ?_)
 clear hK K
 refine norm_ zac ?_
 refine zpu HT_ 8 3 (fl4_ 9 511) ?_
 refine done_ (done_of HT_.out (by kernel_rfl)) ?_
 obtain ⟨⟨_, _, _, _, _⟩, _, _, _, _, _⟩ := zc5 BK188
 try go_wp2_with (first | ((with_reducible refine gate_callee (f := 36) rfl ?_); refine zgl 18 Try.func36 #[.agg #[.string a0_3, .slice A0_4 l0_4.length c0_4]] ?_; (with_reducible refine (F10.calls k a0_3 _ _ l0_4 t198 _ ?side1 ?side2 A5.out).mono ?_); (case side1 => exact zC (Kd.C_below HR0_4.out HB.out)); (case side2 => exact HC0_4.out); rintro e w22 ⟨v199, rfl, ho0, hb⟩; refine ⟨_, rfl, ?_⟩; have HO200 := zm (Kd.R_lower (Kd.R_new' (Kd.R_new' ho0 (Kd.R_lt (zr HO194))) (Kd.R_lt (zr HO197))) (below_size (zg HB))); replace HO194 := zm (Kd.R_elder' (zr HO194) (Kd.R_base ho0) hb); replace HO197 := zm (Kd.R_elder' (zr HO197) (Kd.R_base ho0) hb); replace BK188 := zbb BK188 hb; replace HB := zm (below_step (zg HB) hb); (try clear hb ho0); obtain ⟨Ao25, co25, eo25⟩ := Kd.R_slice HO200.out; subst eo25) | ((with_reducible refine gate_builtin (b := .append) (xs := #[.tmp 15, .tmp 18]) rfl ?_); at_builtin; refine Kd.R_append_rows (Kd.int .u8) (w0 := w) w.heap.size rfl (.tmp 15) (.tmp 18) 26 5 (.int .u8 0) 1 rfl Try.underlying26 info5 rfl (by decide) (by omega) v196 y195 t198 _ _ _ (fun k_ => some k_ ≠ (.slice Ao20 t192.length co20 : Value).ownBlock ∧ some k_ ≠ (.slice Ao25 t198.length co25 : Value).ownBlock) (fun _ => False) rfl rfl ?aO ?aR (fun _ _ h => h) (fun _ h => h.elim) ?aF ?aB ?aS ?aL ?_; (case aR => repeat (first | exact (Kd.R_reads' HO200.out).2.2 | (with_reducible refine Kd.C_alloc ?_ _) | (with_reducible refine Kd.C_drewN ?_ _) | (with_reducible refine Kd.C_drew ?_))); (case aB => exact (zg HB)); (case aF => exact (fun k_ hk => ⟨Kd.fresh' (Kd.R_lt (zr HO194)) k_ hk, Kd.fresh' (Kd.R_lt (zr HO200)) k_ hk⟩)); (case aO => exact (zr HO197)); (case aS => exact (below_size (zg HB))); (case aL => have := LMc6.out; omega); intro v202 w24 ho hb hg hat; rw [← Ny201.out] at ho; replace BK188 := zm (blk_grown (zb BK188) hg (Kd.R_ne HO197.out BK188.out (by decide))); replace HO194 := zm (Kd.R_after (ok := (fun k_ => some k_ ≠ (.slice Ao25 t198.length co25 : Value).ownBlock)) (Kd.R_mono (zr HO194) (fun _ hk => ⟨hk.2, hk.1.2⟩)) hg hat); replace HO200 := zm (Kd.R_after (ok := (fun k_ => some k_ ≠ (.slice Ao20 t192.length co20 : Value).ownBlock)) (Kd.R_mono (zr HO200) (fun _ hk => ⟨hk.1.2, hk.2⟩)) hg hat); replace HB := zm (hb); have HO203 := zm (ho); clear HO197; clear ho hb hg hat; obtain ⟨Ao26, co26, eo26⟩ := Kd.R_slice HO203.out; subst eo26) | ((with_reducible refine gate_callee (f := 63) rfl ?_); refine zgl 26 Try.func63 #[.int .i64 (y201.length : Int)] ?_; (with_reducible refine (F13.calls k (y201.length : Int) t204 _ A7.out).mono ?_); rintro e w27 ⟨v205, rfl, ho0, hb⟩; refine ⟨_, rfl, ?_⟩; have HO206 := zm (Kd.R_lower (Kd.R_new' (Kd.R_new' (Kd.R_new' ho0 (Kd.R_lt (zr HO194))) (Kd.R_lt (zr HO200))) (Kd.R_lt (zr HO203))) (below_size (zg HB))); replace HO194 := zm (Kd.R_elder' (zr HO194) (Kd.R_base ho0) hb); replace HO200 := zm (Kd.R_elder' (zr HO200) (Kd.R_base ho0) hb); replace HO203 := zm (Kd.R_elder' (zr HO203) (Kd.R_base ho0) hb); replace BK188 := zbb BK188 hb; replace HB := zm (below_step (zg HB) hb); (try clear hb ho0)) | ((with_reducible refine gate_builtin (b := .append) (xs := #[.tmp 26, .tmp 27]) rfl ?_); at_builtin; refine Kd.R_append_rows (Kd.int .u8) (w0 := w) w.heap.size rfl (.tmp 26) (.tmp 27) 26 5 (.int .u8 0) 1 rfl Try.underlying26 info5 rfl (by decide) (by omega) v205 t204 y201 _ _ _ (fun k_ => some k_ ≠ (.slice Ao20 t192.length co20 : Value).ownBlock ∧ some k_ ≠ (.slice Ao25 t198.length co25 : Value).ownBlock ∧ some k_ ≠ (.slice Ao26 y201.length co26 : Value).ownBlock) (fun _ => False) rfl rfl ?aO ?aR (fun _ _ h => h) (fun _ h => h.elim) ?aF ?aB ?aS ?aL ?_; (case aR => repeat (first | exact (Kd.R_reads' HO203.out).2.2 | (with_reducible refine Kd.C_alloc ?_ _) | (with_reducible refine Kd.C_drewN ?_ _) | (with_reducible refine Kd.C_drew ?_))); (case aB => exact (zg HB)); (case aF => exact (fun k_ hk => ⟨Kd.fresh' (Kd.R_lt (zr HO194)) k_ hk, Kd.fresh' (Kd.R_lt (zr HO200)) k_ hk, Kd.fresh' (Kd.R_lt (zr HO203)) k_ hk⟩)); (case aO => exact (Kd.R_mono (zr HO206) (fun _ hk => ⟨hk.1.1.2, ⟨hk.1.2, hk.2⟩⟩))); (case aS => exact (below_size (zg HB))); (case aL => have := LMc8.out; omega); intro v208 w29 ho hb hg hat; rw [← Ny207.out] at ho; replace BK188 := zm (blk_grown (zb BK188) hg (Kd.R_ne HO206.out BK188.out (by decide))); replace HO194 := zm (Kd.R_after (ok := (fun k_ => some k_ ≠ (.slice Ao25 t198.length co25 : Value).ownBlock ∧ some k_ ≠ (.slice Ao26 y201.length co26 : Value).ownBlock)) (zr HO194) hg hat); replace HO200 := zm (Kd.R_after (ok := (fun k_ => some k_ ≠ (.slice Ao20 t192.length co20 : Value).ownBlock ∧ some k_ ≠ (.slice Ao26 y201.length co26 : Value).ownBlock)) (zr HO200) hg hat); replace HO203 := zm (Kd.R_after (ok := (fun k_ => some k_ ≠ (.slice Ao20 t192.length co20 : Value).ownBlock ∧ some k_ ≠ (.slice Ao25 t198.length co25 : Value).ownBlock)) (zr HO203) hg hat); replace HB := zm (hb); have HO209 := zm (ho); clear HO206; clear ho hb hg hat) | ((with_reducible refine gate_callee (f := 79) rfl ?_); refine zgl 30 Try.func79 #[.slice Ao26 y201.length co26] ?_; (with_reducible refine (F20.calls k _ _ y201 t210 _ ?side1 ?side2 A9.out).mono ?_); (case side1 => exact zC (Kd.R_reads' HO203.out).2.2); (case side2 => exact (Kd.R_reads' HO203.out).2.1); rintro e w' ⟨rfl, ⟨nd, rfl⟩⟩; refine ⟨_, rfl, ?_⟩) | ((with_reducible refine gate_callee (f := 78) rfl ?_); refine zgl 31 Try.func78 #[.int .i64 t210] ?_; (with_reducible refine (F35.calls t210 t211 _ A10.out).mono ?_); rintro e w30 ⟨v212, rfl, ho0, hb⟩; refine ⟨_, rfl, ?_⟩; have HO213 := zm (Kd.R_lower (Kd.R_new' (Kd.R_new' (Kd.R_new' (Kd.R_new' ho0 (Kd.R_lt (zr HO194))) (Kd.R_lt (zr HO200))) (Kd.R_lt (zr HO203))) (Kd.R_lt (zr HO209))) (below_size (zg HB))); replace HO194 := zm (Kd.R_elder' (zr HO194) (Kd.R_base ho0) hb); replace HO200 := zm (Kd.R_elder' (zr HO200) (Kd.R_base ho0) hb); replace HO203 := zm (Kd.R_elder' (zr HO203) (Kd.R_base ho0) hb); replace HO209 := zm (Kd.R_elder' (zr HO209) (Kd.R_base ho0) hb); replace BK188 := zbb BK188 hb; replace HB := zm (below_step (zg HB) hb); (try clear hb ho0); obtain ⟨Ao33, co33, eo33⟩ := Kd.R_slice HO213.out; subst eo33) | ((with_reducible refine gate_builtin (b := .append) (xs := #[.tmp 28, .tmp 31]) rfl ?_); at_builtin; refine Kd.R_append_rows (Kd.int .u8) (w0 := w) w.heap.size rfl (.tmp 28) (.tmp 31) 26 5 (.int .u8 0) 1 rfl Try.underlying26 info5 rfl (by decide) (by omega) v208 y207 t211 _ _ _ (fun k_ => some k_ ≠ (.slice Ao20 t192.length co20 : Value).ownBlock ∧ some k_ ≠ (.slice Ao25 t198.length co25 : Value).ownBlock ∧ some k_ ≠ (.slice Ao26 y201.length co26 : Value).ownBlock ∧ some k_ ≠ (.slice Ao33 t211.length co33 : Value).ownBlock) (fun _ => False) rfl rfl ?aO ?aR (fun _ _ h => h) (fun _ h => h.elim) ?aF ?aB ?aS ?aL ?_; (case aR => repeat (first | exact (Kd.R_reads' HO213.out).2.2 | (with_reducible refine Kd.C_alloc ?_ _) | (with_reducible refine Kd.C_drewN ?_ _) | (with_reducible refine Kd.C_drew ?_))); (case aB => exact (zg HB)); (case aF => exact (fun k_ hk => ⟨Kd.fresh' (Kd.R_lt (zr HO194)) k_ hk, Kd.fresh' (Kd.R_lt (zr HO200)) k_ hk, Kd.fresh' (Kd.R_lt (zr HO203)) k_ hk, Kd.fresh' (Kd.R_lt (zr HO213)) k_ hk⟩)); (case aO => exact (Kd.R_mono (zr HO209) (fun _ hk => ⟨hk.1.1, ⟨hk.1.2.1, ⟨hk.1.2.2, hk.2⟩⟩⟩))); (case aS => exact (below_size (zg HB))); (case aL => have := LMc11.out; omega); intro v215 w32 ho hb hg hat; rw [← Ny214.out] at ho; replace BK188 := zm (blk_grown (zb BK188) hg (Kd.R_ne HO209.out BK188.out (by decide))); replace HO194 := zm (Kd.R_after (ok := (fun k_ => some k_ ≠ (.slice Ao25 t198.length co25 : Value).ownBlock ∧ some k_ ≠ (.slice Ao26 y201.length co26 : Value).ownBlock ∧ some k_ ≠ (.slice Ao33 t211.length co33 : Value).ownBlock)) (Kd.R_mono (zr HO194) (fun _ hk => ⟨⟨hk.1.1.1, ⟨hk.1.1.2, hk.2⟩⟩, hk.1.2⟩)) hg hat); replace HO200 := zm (Kd.R_after (ok := (fun k_ => some k_ ≠ (.slice Ao20 t192.length co20 : Value).ownBlock ∧ some k_ ≠ (.slice Ao26 y201.length co26 : Value).ownBlock ∧ some k_ ≠ (.slice Ao33 t211.length co33 : Value).ownBlock)) (Kd.R_mono (zr HO200) (fun _ hk => ⟨⟨hk.1.1.1, ⟨hk.1.1.2, hk.2⟩⟩, hk.1.2⟩)) hg hat); replace HO203 := zm (Kd.R_after (ok := (fun k_ => some k_ ≠ (.slice Ao20 t192.length co20 : Value).ownBlock ∧ some k_ ≠ (.slice Ao25 t198.length co25 : Value).ownBlock ∧ some k_ ≠ (.slice Ao33 t211.length co33 : Value).ownBlock)) (Kd.R_mono (zr HO203) (fun _ hk => ⟨⟨hk.1.1.1, ⟨hk.1.1.2, hk.2⟩⟩, hk.1.2⟩)) hg hat); replace HO213 := zm (Kd.R_after (ok := (fun k_ => some k_ ≠ (.slice Ao20 t192.length co20 : Value).ownBlock ∧ some k_ ≠ (.slice Ao25 t198.length co25 : Value).ownBlock ∧ some k_ ≠ (.slice Ao26 y201.length co26 : Value).ownBlock)) (Kd.R_mono (zr HO213) (fun _ hk => ⟨⟨hk.1.1.1.2, ⟨hk.1.1.2, hk.1.2⟩⟩, hk.2⟩)) hg hat); replace HB := zm (hb); have HO216 := zm (ho); clear HO209; clear ho hb hg hat))
 go_ret
 exact ⟨_, zre, Kd.R_mono (zr HO216) (fun _ hk => trivial), zg HB⟩
/-! ### F31: function 22 -/
def F31.f (k : Nat) (a0_0 : Int) (a0_1 : Int) (a0_2 : ByteArray) (a0_3 : ByteArray) (l0_4 : List (S66)) : Option (List Int × Int) := (F14.f k a0_0 a0_1 a0_2 a0_3 l0_4).bind fun t234 => (if t234 = true then ((F24.f k a0_0 a0_1 a0_2 a0_3 l0_4).bind fun t235 => (if (t235.length : Int) > 1048576 then (some ((([] : List Int)), 2)) else (some (t235, 0)))) else (some ((([] : List Int)), 1)))
theorem F31.mono : ∀ a0 a1 a2 a3 a4 k, LeO (F31.f k a0 a1 a2 a3 a4) (F31.f (k + 1) a0 a1 a2 a3 a4) := by
 intro a0 a1 a2 a3 a4 k
 unfold F31.f
 repeat' with_reducible first | exact F24.mono _ _ _ _ _ _ | exact F14.mono _ _ _ _ _ _ | exact LeO.refl _ | exact LeO.none _ | refine LeO.ite ?_ ?_ | refine LeO.bind ?_ (fun _ => ?_)
set_option maxHeartbeats 8000000 in
set_option maxRecDepth 100000 in
theorem F31.calls (k : Nat) (a0_0 : Int) (a0_1 : Int) (a0_2 : ByteArray) (a0_3 : ByteArray) (A0_4 : Option Addr) (c0_4 : Nat) (l0_4 : List (S66)) (r1 : List Int) (r2 : Int) (w : World) (hr0_4 : Kd.C k66 w A0_4 l0_4.length l0_4) (hc0_4 : l0_4.length ≤ c0_4) (h : F31.f k a0_0 a0_1 a0_2 a0_3 l0_4 = some (r1, r2)) :
 Calls Try.prog 22 #[.agg #[.int .i64 a0_0, .int .i64 a0_1, .string a0_2, .string a0_3, .slice A0_4 l0_4.length c0_4]] w fun e w' => ∃ v0_ : Value, e = .returned (.tuple #[v0_, .int .i64 r2]) ∧ Kd.R (Kd.int .u8) 5 w' w.heap.size (fun _ => True) v0_ r1 ∧ Below w.heap.size w w' := by
 have hu47 := Try.underlying47
 have HR0_4 := zm hr0_4
 have HC0_4 := zm hc0_4
 clear hr0_4 hc0_4
 have HB := zm (Below.refl w.heap.size w)
 have H := h
 unfold F31.f at H
 clear h
 replace H := zbi H
 obtain ⟨t234, A2, H⟩ := H
 try dsimp only at H
 by_cases c3 : t234 = true
 rotate_left
 ·replace c3 := Bool.eq_false_iff.mpr c3
  subst c3
  rw [if_neg (show ¬ (false = true) by decide)] at H
  obtain ⟨y241, hy241⟩ : ∃ y_ : List Int, y_ = (([] : List Int)) := ⟨_, rfl⟩
  replace H : (some (y241, 1)) = some (r1, r2) := zby hy241 H
  have Ny241 := zm hy241
  clear hy241
  simp only [Option.some.injEq, Prod.mk.injEq] at H
  obtain ⟨rfl, rfl⟩ := H
  go_enter Try.func22, Try.ntmps22
  go_wp2_with (first | ((with_reducible refine gate_dst (N := 1) rfl ?_); refine box_event (by rfl) (N := 1) (by rfl) (cs := #[.int .i64 a0_0, .int .i64 a0_1, .string a0_2, .string a0_3, .slice A0_4 l0_4.length c0_4]) (t := 47) zgs ?_; intro gb233 hg w24 hbox hb; have BK233 := zm (hbox); have GW233 := zge hg (below_size (zh HB)); have GE233 := zge hg (below_size (zh HB)); replace HB := zm (below_step (zh HB) hb); clear hb hbox hg; obtain ⟨⟨_, _, _, _, _⟩, _, _, _, _, _⟩ := zc5 BK233) | ((with_reducible refine gate_callee (f := 46) rfl ?_); refine zgl 6 Try.func46 #[.agg #[.int .i64 a0_0, .int .i64 a0_1, .string a0_2, .string a0_3, .slice A0_4 l0_4.length c0_4]] ?_; (with_reducible refine (F14.calls k a0_0 a0_1 a0_2 a0_3 _ _ l0_4 false _ ?side1 ?side2 A2.out).mono ?_); (case side1 => exact zC (Kd.C_below HR0_4.out HB.out)); (case side2 => exact HC0_4.out); rintro e w26 ⟨rfl, hb⟩; refine ⟨_, rfl, ?_⟩; replace BK233 := zbb BK233 hb; replace HB := zm (below_step (zg HB) hb); (try clear hb)) | ((with_reducible refine gate_dst (N := 8) rfl ?_); refine Kd.R_lit (Kd.int .u8) _ 5 ?hg (N := 8) ?hd (xs := ([] : List Int)) (inner := []) (ok := fun _ => True) (okp := fun _ => True) ?hr ?hp (fun _ hk => hk) trivial (Below.refl _ _) (Nat.le_refl _) (by simp) ?_; (case hd => rfl); (case hg => rfl); (case hr => first | (go_simp; done) | (go_simp; rfl)); (case hp => exact (Reps.none _ _)); intro v242 w28 ho29 hb hg_ hnew_; clear hg_ hnew_; (first | rw [← Ny241.out] at ho29 | (simp only [Int.reduceToNat] at ho29; rw [← Ny241.out] at ho29)); have HO243 := zm (Kd.R_lower ho29 (below_size (zg HB))); replace BK233 := zbb BK233 hb; replace HB := zm (below_step (zg HB) hb); clear hb ho29))
  go_ret2
  exact ⟨_, zre, by (with_reducible repeat (first | apply Kd.R_alloc | apply Kd.R_drewN | apply Kd.R_drew)); exact HO243.out, zg HB⟩

 subst c3
 rw [if_pos rfl] at H
 replace H := zbi H
 obtain ⟨t235, A4, H⟩ := H
 try dsimp only at H
 by_cases c5 : (t235.length : Int) > 1048576
 rotate_left
 ·rw [if_neg c5] at H
  have c5b0 := decide_eq_false c5
  have c5b1 : decide (1048576 < t235.length) = false := decide_eq_false (by omega)
  clear c5
  simp only [Option.some.injEq, Prod.mk.injEq] at H
  obtain ⟨rfl, rfl⟩ := H
  go_enter Try.func22, Try.ntmps22
  go_wp2_with (first | ((with_reducible refine gate_dst (N := 1) rfl ?_); refine box_event (by rfl) (N := 1) (by rfl) (cs := #[.int .i64 a0_0, .int .i64 a0_1, .string a0_2, .string a0_3, .slice A0_4 l0_4.length c0_4]) (t := 47) zgs ?_; intro gb233 hg w16 hbox hb; have BK233 := zm (hbox); have GW233 := zge hg (below_size (zh HB)); have GE233 := zge hg (below_size (zh HB)); replace HB := zm (below_step (zh HB) hb); clear hb hbox hg; obtain ⟨⟨_, _, _, _, _⟩, _, _, _, _, _⟩ := zc5 BK233) | ((with_reducible refine gate_callee (f := 46) rfl ?_); refine zgl 6 Try.func46 #[.agg #[.int .i64 a0_0, .int .i64 a0_1, .string a0_2, .string a0_3, .slice A0_4 l0_4.length c0_4]] ?_; (with_reducible refine (F14.calls k a0_0 a0_1 a0_2 a0_3 _ _ l0_4 true _ ?side1 ?side2 A2.out).mono ?_); (case side1 => exact zC (Kd.C_below HR0_4.out HB.out)); (case side2 => exact HC0_4.out); rintro e w18 ⟨rfl, hb⟩; refine ⟨_, rfl, ?_⟩; replace BK233 := zbb BK233 hb; replace HB := zm (below_step (zg HB) hb); (try clear hb); obtain ⟨⟨_, _, _, _, _⟩, _, _, _, _, _⟩ := zc5 BK233) | ((with_reducible refine gate_callee (f := 47) rfl ?_); refine zgl 10 Try.func47 #[.agg #[.int .i64 a0_0, .int .i64 a0_1, .string a0_2, .string a0_3, .slice A0_4 l0_4.length c0_4]] ?_; (with_reducible refine (F24.calls k a0_0 a0_1 a0_2 a0_3 _ _ l0_4 t235 _ ?side1 ?side2 A4.out).mono ?_); (case side1 => exact zC (Kd.C_below HR0_4.out HB.out)); (case side2 => exact HC0_4.out); rintro e w21 ⟨v236, rfl, ho0, hb⟩; refine ⟨_, rfl, ?_⟩; have HO237 := zm (Kd.R_lower ho0 (below_size (zg HB))); replace BK233 := zbb BK233 hb; replace HB := zm (below_step (zg HB) hb); (try clear hb ho0); obtain ⟨Ao23, co23, eo23⟩ := Kd.R_slice HO237.out; subst eo23))
  go_ret2
  exact ⟨_, zre, by (with_reducible repeat (first | apply Kd.R_alloc | apply Kd.R_drewN | apply Kd.R_drew)); exact HO237.out, zg HB⟩
 rw [if_pos c5] at H
 have c5b0 := decide_eq_true c5
 have c5b1 : decide (1048576 < t235.length) = true := decide_eq_true (by omega)
 clear c5
 obtain ⟨y238, hy238⟩ : ∃ y_ : List Int, y_ = (([] : List Int)) := ⟨_, rfl⟩
 replace H : (some (y238, 2)) = some (r1, r2) := zby hy238 H
 have Ny238 := zm hy238
 clear hy238
 simp only [Option.some.injEq, Prod.mk.injEq] at H
 obtain ⟨rfl, rfl⟩ := H
 go_enter Try.func22, Try.ntmps22
 go_wp2_with (first | ((with_reducible refine gate_dst (N := 1) rfl ?_); refine box_event (by rfl) (N := 1) (by rfl) (cs := #[.int .i64 a0_0, .int .i64 a0_1, .string a0_2, .string a0_3, .slice A0_4 l0_4.length c0_4]) (t := 47) zgs ?_; intro gb233 hg w6 hbox hb; have BK233 := zm (hbox); have GW233 := zge hg (below_size (zh HB)); have GE233 := zge hg (below_size (zh HB)); replace HB := zm (below_step (zh HB) hb); clear hb hbox hg; obtain ⟨⟨_, _, _, _, _⟩, _, _, _, _, _⟩ := zc5 BK233) | ((with_reducible refine gate_callee (f := 46) rfl ?_); refine zgl 6 Try.func46 #[.agg #[.int .i64 a0_0, .int .i64 a0_1, .string a0_2, .string a0_3, .slice A0_4 l0_4.length c0_4]] ?_; (with_reducible refine (F14.calls k a0_0 a0_1 a0_2 a0_3 _ _ l0_4 true _ ?side1 ?side2 A2.out).mono ?_); (case side1 => exact zC (Kd.C_below HR0_4.out HB.out)); (case side2 => exact HC0_4.out); rintro e w8 ⟨rfl, hb⟩; refine ⟨_, rfl, ?_⟩; replace BK233 := zbb BK233 hb; replace HB := zm (below_step (zg HB) hb); (try clear hb); obtain ⟨⟨_, _, _, _, _⟩, _, _, _, _, _⟩ := zc5 BK233) | ((with_reducible refine gate_callee (f := 47) rfl ?_); refine zgl 10 Try.func47 #[.agg #[.int .i64 a0_0, .int .i64 a0_1, .string a0_2, .string a0_3, .slice A0_4 l0_4.length c0_4]] ?_; (with_reducible refine (F24.calls k a0_0 a0_1 a0_2 a0_3 _ _ l0_4 t235 _ ?side1 ?side2 A4.out).mono ?_); (case side1 => exact zC (Kd.C_below HR0_4.out HB.out)); (case side2 => exact HC0_4.out); rintro e w11 ⟨v236, rfl, ho0, hb⟩; refine ⟨_, rfl, ?_⟩; have HO237 := zm (Kd.R_lower ho0 (below_size (zg HB))); replace BK233 := zbb BK233 hb; replace HB := zm (below_step (zg HB) hb); (try clear hb ho0); obtain ⟨Ao13, co13, eo13⟩ := Kd.R_slice HO237.out; subst eo13) | ((with_reducible refine gate_dst (N := 14) rfl ?_); refine Kd.R_lit (Kd.int .u8) _ 5 ?hg (N := 14) ?hd (xs := ([] : List Int)) (inner := []) (ok := fun _ => True) (okp := fun _ => True) ?hr ?hp (fun _ hk => hk) trivial (Below.refl _ _) (Nat.le_refl _) (by simp) ?_; (case hd => rfl); (case hg => rfl); (case hr => first | (go_simp; done) | (go_simp; rfl)); (case hp => exact (Reps.none _ _)); intro v239 w14 ho15 hb hg_ hnew_; clear hg_ hnew_; (first | rw [← Ny238.out] at ho15 | (simp only [Int.reduceToNat] at ho15; rw [← Ny238.out] at ho15)); have HO240 := zm (Kd.R_lower (Kd.R_new' ho15 (Kd.R_lt (zr HO237))) (below_size (zg HB))); replace HO237 := zm (Kd.R_elder' (zr HO237) (Kd.R_base ho15) hb); replace BK233 := zbb BK233 hb; replace HB := zm (below_step (zg HB) hb); clear hb ho15))
 go_ret2
 exact ⟨_, zre, Kd.R_mono (zr HO240) (fun _ hk => trivial), zg HB⟩
/-! ### F40: function 38 -/
def F40.f (a0 : Int) (a1 : Int) (a2 : Int) : Option (Bool) := if a0 ≥ a1 then (some (decide (a0 ≤ a2))) else (some false)
set_option maxHeartbeats 8000000 in
set_option maxRecDepth 100000 in
theorem F40.calls (a0 : Int) (a1 : Int) (a2 : Int) (r : Bool) (w : World) (h : F40.f a0 a1 a2 = some r) :
 Calls Try.prog 38 #[.int .i64 a0, .int .i64 a1, .int .i64 a2] w fun e w' => e = .returned (.bool r) ∧ Drawn0 w w' := by
 have H := h
 unfold F40.f at H
 clear h
 by_cases c4 : a0 ≥ a1
 ·rw [if_pos c4] at H
  have c4b0 := decide_eq_true c4
  clear c4
  obtain rfl := Option.some.inj H
  go_enter Try.func38, Try.ntmps38
  go_wp2
  go_ret
  exact ⟨zrs, by repeat (first | exact Drawn0.refl _ | apply Drawn0.step)⟩
 rw [if_neg c4] at H
 have c4b0 := decide_eq_false c4
 clear c4
 obtain rfl := Option.some.inj H
 go_enter Try.func38, Try.ntmps38
 go_wp2
 go_ret
 exact ⟨zrs, by repeat (first | exact Drawn0.refl _ | apply Drawn0.step)⟩

/-! ### F19: function 39 -/
def F19.l0 : Nat → List Int → Int → Option (List Int)
 | 0, _, _ => none
 | k + 1, x0, x1 => if x1 ≥ 128 then (if x0.length < 140737488355328 then (F19.l0 k (x0 ++ [Go.bits .or .u8 ((x1) % 256) 128]) (x1 / 128)) else (none)) else (if x0.length < 140737488355328 then (some (x0 ++ [(x1) % 256])) else (none))
def F19.f (k : Nat) (l0 : List Int) (a1 : Int) : Option (List Int) := F19.l0 k l0 a1
theorem F19.mono_l : ∀ k, (∀ y0 y1, LeO (F19.l0 k y0 y1) (F19.l0 (k + 1) y0 y1))
 | 0 => fun _ _ r h => by simp [F19.l0] at h
 | k + 1 => by
  have ih0 := F19.mono_l k
  ·intro y0 y1
   unfold F19.l0
   repeat' with_reducible first | exact ih0 _ _ | exact LeO.refl _ | exact LeO.none _ | refine LeO.ite ?_ ?_ | refine LeO.bind ?_ (fun _ => ?_)
theorem F19.mono : ∀ a0 a1 k, LeO (F19.f k a0 a1) (F19.f (k + 1) a0 a1) := by
 intro a0 a1 k
 have ih0 := F19.mono_l k
 unfold F19.f
 repeat' with_reducible first | exact ih0 _ _ | exact LeO.refl _ | exact LeO.none _ | refine LeO.ite ?_ ?_ | refine LeO.bind ?_ (fun _ => ?_)
set_option maxHeartbeats 8000000 in
set_option maxRecDepth 100000 in
theorem F19.calls (k : Nat) (P0_ : Nat → Prop) (u9000_ : Value) (l0 : List Int) (a1 : Int) (r : List Int) (w0 w : World) (hB : Below w0.heap.size w0 w) (ho0 : Kd.R (Kd.int .u8) 5 w w0.heap.size P0_ u9000_ l0) (h : F19.f k l0 a1 = some r) :
 Calls Try.prog 39 #[u9000_, .int .i64 a1] w fun e w' => ∃ v0_ : Value, e = .returned (v0_) ∧ Kd.R (Kd.int .u8) 5 w' w0.heap.size (fun k_ => (P0_ k_ ∨ w.heap.size ≤ k_)) v0_ r ∧ Below w0.heap.size w0 w' ∧ Kept w w' (fun k_ => P0_ k_) := by
 have HO0 := zm (show Kd.R (Kd.int .u8) 5 w w0.heap.size (fun k_ => (P0_ k_ ∨ w.heap.size ≤ k_)) u9000_ l0 from Kd.R_mono ho0 (fun k_ hk => (.inl hk)))
 have HK := zm (Kept.refl w (fun k_ => P0_ k_))
 have HW0 := zm hB.size
 have HB := zm hB
 clear hB
 have H : (F19.l0 k l0 a1) = some r := h
 clear h
 have H' := zm H
 clear H
 go_enter Try.func39, Try.ntmps39
 go_wp2
 go_loopg [0, 1] k (fun kq v0 v1 w' => ∃ (x0_1 : List Int) (x1_1 : Int), v1 = .int .i64 x1_1 ∧ Aside0 (F19.l0 kq x0_1 x1_1 = some r) ∧ Aside0 (kq ≤ k) ∧ Aside0 (Kd.R (Kd.int .u8) 5 w' w0.heap.size (fun k_ => (P0_ k_ ∨ w.heap.size ≤ k_)) v0 x0_1) ∧ Aside0 (Kept w w' (fun k_ => P0_ k_)) ∧ Aside0 (Below w0.heap.size w0 w'))
 case atStart => exact ⟨(l0), (a1), zrs, H', ⟨Nat.le_refl _⟩, ⟨zr HO0⟩, ⟨by repeat (first | (with_reducible first | exact HK.out | apply Kept.alloc | apply Kept.drewN | apply Kept.drew) | exact HK.out)⟩, ⟨zh HB⟩⟩
 case round =>
  clear H'
  obtain ⟨x0_1, x1_1, rfl, HA, HK1, HO_0, HK, HB⟩ := hrel
  cases gk with
  | zero => exact absurd HA.out (by simp [F19.l0])
  | succ k1 =>
   have H := HA.out
   clear HA
   simp only [F19.l0] at H
   by_cases c3 : x1_1 ≥ 128
   rotate_left
   ·rw [if_neg c3] at H
    have c3b0 := decide_eq_false c3
    clear c3
    by_cases c6 : x0_1.length < 140737488355328
    rotate_left
    ·rw [if_neg c6] at H
     exact absurd H (by simp)

    rw [if_pos c6] at H
    have LMc6 := zm c6
    clear c6
    obtain ⟨y247, hy247⟩ : ∃ y_ : List Int, y_ = (x0_1 ++ [(x1_1) % 256]) := ⟨_, rfl⟩
    replace H : (some y247) = some r := zby hy247 H
    have Ny247 := zm hy247
    clear hy247
    obtain rfl := Option.some.inj H
    go_wp2_with (first | ((with_reducible refine gate_builtin (b := .append) (xs := #[.tmp 15, .tmp 18]) rfl ?_); at_builtin; refine Kd.R_append (Kd.int .u8) (w0 := w0) w0.heap.size rfl (.tmp 15) (.tmp 18) 26 5 (.int .u8 0) 1 rfl Try.underlying26 info5 rfl (by decide) (by omega) u0 x0_1 ((x1_1) % 256) [.int .u8 ((x1_1) % 256)] (fun k_ => (P0_ k_ ∨ w.heap.size ≤ k_)) (fun _ => False) rfl rfl ?aP (fun _ hk => hk.elim) ?aF ?aO ?aB ?aS ?aL ?_; (case aP => exact rfl); (case aB => exact (zh HB)); (case aF => exact (fun k_ hk => (.inr (Nat.le_trans (by first | exact HK.out.1 | exact (show Kept w _ (fun k_ => P0_ k_) from by repeat (first | (with_reducible first | exact HK.out | apply Kept.alloc | apply Kept.drewN | apply Kept.drew) | exact HK.out)).1) hk)))); (case aO => exact (zr HO_0)); (case aS => exact (below_size (zh HB))); (case aL => have := LMc6.out; omega); intro v248 w7 ho hb hg hat; rw [← Ny247.out] at ho; replace HB := zm (hb); replace HK := zm (Kept.of_grown (S := (fun k_ => P0_ k_)) hg (by repeat (first | (with_reducible first | exact HK.out | apply Kept.alloc | apply Kept.drewN | apply Kept.drew) | exact HK.out)) (fun k_ e_ => (HO_0.out.1 k_ e_))); have HO249 := zm (ho); clear HO_0; clear ho hb hg hat))
    go_ret
    exact ⟨_, zre, by (with_reducible repeat (first | apply Kd.R_alloc | apply Kd.R_drewN | apply Kd.R_drew)); exact HO249.out, zh HB, by repeat (first | (with_reducible first | exact HK.out | apply Kept.alloc | apply Kept.drewN | apply Kept.drew) | exact HK.out)⟩
   rw [if_pos c3] at H
   have c3b0 := decide_eq_true c3
   clear c3
   replace H := zif H
   obtain ⟨c4, H⟩ := H
   have LMc4 := zm c4
   clear c4
   obtain ⟨y244, hy244⟩ : ∃ y_ : List Int, y_ = (x0_1 ++ [Go.bits .or .u8 ((x1_1) % 256) 128]) := ⟨_, rfl⟩
   replace H : (F19.l0 k1 y244 (x1_1 / 128)) = some r := zby hy244 H
   have Ny244 := zm hy244
   clear hy244
   have H' := zm H
   clear H
   go_wp2_with (first | ((with_reducible refine gate_builtin (b := .append) (xs := #[.tmp 7, .tmp 11]) rfl ?_); at_builtin; refine Kd.R_append (Kd.int .u8) (w0 := w0) w0.heap.size rfl (.tmp 7) (.tmp 11) 26 5 (.int .u8 0) 1 rfl Try.underlying26 info5 rfl (by decide) (by omega) u0 x0_1 (Go.bits .or .u8 ((x1_1) % 256) 128) [.int .u8 (Go.bits .or .u8 ((x1_1) % 256) 128)] (fun k_ => (P0_ k_ ∨ w.heap.size ≤ k_)) (fun _ => False) rfl rfl ?aP (fun _ hk => hk.elim) ?aF ?aO ?aB ?aS ?aL ?_; (case aP => exact rfl); (case aB => exact (zh HB)); (case aF => exact (fun k_ hk => (.inr (Nat.le_trans (by first | exact HK.out.1 | exact (show Kept w _ (fun k_ => P0_ k_) from by repeat (first | (with_reducible first | exact HK.out | apply Kept.alloc | apply Kept.drewN | apply Kept.drew) | exact HK.out)).1) hk)))); (case aO => exact (zr HO_0)); (case aS => exact (below_size (zh HB))); (case aL => have := LMc4.out; omega); intro v245 w5 ho hb hg hat; rw [← Ny244.out] at ho; replace HB := zm (hb); replace HK := zm (Kept.of_grown (S := (fun k_ => P0_ k_)) hg (by repeat (first | (with_reducible first | exact HK.out | apply Kept.alloc | apply Kept.drewN | apply Kept.drew) | exact HK.out)) (fun k_ e_ => (HO_0.out.1 k_ e_))); have HO246 := zm (ho); clear HO_0; clear ho hb hg hat))
   go_roundg k1
   case measure => have := HK1.out; omega
   case rel => exact ⟨(y244), (x1_1 / 128), zrs, H', ⟨by have := HK1.out; omega⟩, ⟨zr HO246⟩, ⟨by repeat (first | (with_reducible first | exact HK.out | apply Kept.alloc | apply Kept.drewN | apply Kept.drew) | exact HK.out)⟩, ⟨zh HB⟩⟩
/-! ### F39: function 40 -/
def F39.f (k : Nat) (l0 : List Int) (a1 : ByteArray) : Option (List Int) := (F19.f k l0 (a1.size : Int)).bind fun t250 => (if t250.length + a1.size < 140737488355328 then (some (t250 ++ bytesOf a1)) else (none))
theorem F39.mono : ∀ a0 a1 k, LeO (F39.f k a0 a1) (F39.f (k + 1) a0 a1) := by
 intro a0 a1 k
 unfold F39.f
 repeat' with_reducible first | exact F19.mono _ _ _ | exact LeO.refl _ | exact LeO.none _ | refine LeO.ite ?_ ?_ | refine LeO.bind ?_ (fun _ => ?_)
set_option maxHeartbeats 8000000 in
set_option maxRecDepth 100000 in
theorem F39.calls (k : Nat) (P0_ : Nat → Prop) (u9000_ : Value) (l0 : List Int) (a1 : ByteArray) (r : List Int) (w0 w : World) (hB : Below w0.heap.size w0 w) (ho0 : Kd.R (Kd.int .u8) 5 w w0.heap.size P0_ u9000_ l0) (h : F39.f k l0 a1 = some r) :
 Calls Try.prog 40 #[u9000_, .string a1] w fun e w' => ∃ v0_ : Value, e = .returned (v0_) ∧ Kd.R (Kd.int .u8) 5 w' w0.heap.size (fun k_ => (P0_ k_ ∨ w.heap.size ≤ k_)) v0_ r ∧ Below w0.heap.size w0 w' ∧ Kept w w' (fun k_ => P0_ k_) := by
 have HO0 := zm (show Kd.R (Kd.int .u8) 5 w w0.heap.size (fun k_ => (P0_ k_ ∨ w.heap.size ≤ k_)) u9000_ l0 from Kd.R_mono ho0 (fun k_ hk => (.inl hk)))
 have HK := zm (Kept.refl w (fun k_ => P0_ k_))
 have HW0 := zm hB.size
 have HB := zm hB
 clear hB
 have H := h
 unfold F39.f at H
 clear h
 replace H := zbi H
 obtain ⟨t250, A3, H⟩ := H
 try dsimp only at H
 by_cases c4 : t250.length + a1.size < 140737488355328
 rotate_left
 ·rw [if_neg c4] at H
  exact absurd H (by simp)

 rw [if_pos c4] at H
 have LMc4 := zm c4
 clear c4
 obtain ⟨y253, hy253⟩ : ∃ y_ : List Int, y_ = (t250 ++ bytesOf a1) := ⟨_, rfl⟩
 replace H : (some y253) = some r := zby hy253 H
 have Ny253 := zm hy253
 clear hy253
 obtain rfl := Option.some.inj H
 obtain ⟨Ao5, co5, eo5⟩ := Kd.R_slice HO0.out
 subst eo5
 go_enter Try.func40, Try.ntmps40
 go_wp2_with (first | ((with_reducible refine gate_callee (f := 39) rfl ?_); refine zgl 8 Try.func39 #[.slice Ao5 l0.length co5, .int .i64 (a1.size : Int)] ?_; (with_reducible refine (F19.calls k (fun k_ => some k_ = (.slice Ao5 l0.length co5 : Value).ownBlock) (.slice Ao5 l0.length co5) l0 (a1.size : Int) t250 w0 _ ?side1 ?side2 A3.out).mono ?_); (case side1 => exact zh HB); (case side2 => exact Kd.R_tight rfl HO0.out); rintro e w6 ⟨v251, rfl, ho0, hb, hkp⟩; refine ⟨_, rfl, ?_⟩; have HO252 := zm (Kd.R_mono (ok' := fun k_ => (P0_ k_ ∨ w.heap.size ≤ k_)) ho0 (fun k_ hk_ => Or.elim hk_ (fun hs_ => (HO0.out.1 k_ (hs_).symm)) (fun hn_ => (.inr (Nat.le_trans (by first | exact HK.out.1 | exact (show Kept w _ (fun k_ => P0_ k_) from by repeat (first | (with_reducible first | exact HK.out | apply Kept.alloc | apply Kept.drewN | apply Kept.drew) | exact HK.out)).1) hn_))))); replace HK := zm (Kept.then_ (S := (fun k_ => P0_ k_)) (by repeat (first | (with_reducible first | exact HK.out | apply Kept.alloc | apply Kept.drewN | apply Kept.drew) | exact HK.out)) hkp (fun k_ hs_ => (fun e_ => (HO0.out.1 k_ e_.symm)) hs_)); replace HB := zm (hb); clear HO0; (try clear hb hkp ho0)) | (at_builtin; refine Kd.R_append_str (w0 := w0) w0.heap.size rfl (.tmp 8) _ 26 9 5 rfl Try.underlying26 Try.underlying9 info5 v251 t250 a1 (fun k_ => (P0_ k_ ∨ w.heap.size ≤ k_)) rfl rfl ?aF ?aO ?aB ?aS ?aL ?_; (case aB => exact (zh HB)); (case aF => exact (fun k_ hk => (.inr (Nat.le_trans (by first | exact HK.out.1 | exact (show Kept w _ (fun k_ => P0_ k_) from by repeat (first | (with_reducible first | exact HK.out | apply Kept.alloc | apply Kept.drewN | apply Kept.drew) | exact HK.out)).1) hk)))); (case aO => exact (zr HO252)); (case aS => exact (below_size (zh HB))); (case aL => have := LMc4.out; omega); intro v254 w7 ho hb hg hat; rw [← Ny253.out] at ho; replace HB := zm (hb); replace HK := zm (Kept.of_grown (S := (fun k_ => P0_ k_)) hg (by repeat (first | (with_reducible first | exact HK.out | apply Kept.alloc | apply Kept.drewN | apply Kept.drew) | exact HK.out)) (fun k_ e_ => (HO252.out.1 k_ e_))); have HO255 := zm (ho); clear HO252; clear ho hb hg hat))
 go_ret
 exact ⟨_, zre, by (with_reducible repeat (first | apply Kd.R_alloc | apply Kd.R_drewN | apply Kd.R_drew)); exact HO255.out, zh HB, by repeat (first | (with_reducible first | exact HK.out | apply Kept.alloc | apply Kept.drewN | apply Kept.drew) | exact HK.out)⟩
def fl5_ (n m : Nat) : Array Bool := ((List.range n).map fun i => m.testBit i).toArray

/-! ### F0: function 11 -/
mutual
def F0.j0 : Nat → Bool → ByteArray → List (S66) → Option (List Int × Int)
 | 0, _, _, _ => none
 | k + 1, x26, x257000, x257001 => if x26 = true then (some (([] : List Int), 12)) else (F0.l0 k x257001 (x257001.length : Int) 0 x257000 x257001)
def F0.l0 : Nat → List (S66) → Int → Int → ByteArray → List (S66) → Option (List Int × Int)
 | 0, _, _, _, _, _ => none
 | k + 1, x28, x29, x30, x257000, x257001 => if x30 < x29 then (if 0 ≤ x30 then (if x30 < (x28.length : Int) then (if (((rd_T66 x28 x30).f0).size : Int) > 65536 then (F0.j2 k x28 x29 x30 true x257000 x257001 ((rd_T66 x28 x30).f0) ((rd_T66 x28 x30).f1) ((rd_T66 x28 x30).f2)) else (if (((rd_T66 x28 x30).f1).length : Int) > 4096 then (F0.j2 k x28 x29 x30 true x257000 x257001 ((rd_T66 x28 x30).f0) ((rd_T66 x28 x30).f1) ((rd_T66 x28 x30).f2)) else (F0.j2 k x28 x29 x30 (decide ((((rd_T66 x28 x30).f2).length : Int) > 4096)) x257000 x257001 ((rd_T66 x28 x30).f0) ((rd_T66 x28 x30).f1) ((rd_T66 x28 x30).f2)))) else (none)) else (none)) else ((F39.f k ([] : List Int) x257000).bind fun t262 => ((F19.f k t262 (x257001.length : Int)).bind fun t265 => (F0.l3 k t265 x257001 (x257001.length : Int) 0)))
def F0.j2 : Nat → List (S66) → Int → Int → Bool → ByteArray → List (S66) → ByteArray → List ByteArray → List Int → Option (List Int × Int)
 | 0, _, _, _, _, _, _, _, _, _ => none
 | k + 1, x28, x29, x30, x49, x257000, x257001, x259000, x259001, x259002 => if x49 = true then (some (([] : List Int), 12)) else (F0.l1 k x28 x29 x30 x259001 (x259001.length : Int) 0 x257000 x257001 x259000 x259001 x259002)
def F0.l1 : Nat → List (S66) → Int → Int → List ByteArray → Int → Int → ByteArray → List (S66) → ByteArray → List ByteArray → List Int → Option (List Int × Int)
 | 0, _, _, _, _, _, _, _, _, _, _, _ => none
 | k + 1, x28, x29, x30, x51, x52, x53, x257000, x257001, x259000, x259001, x259002 => if x53 < x52 then (if 0 ≤ x53 then (if x53 < (x51.length : Int) then (if ((rdOf ByteArray.empty x51 x53).size : Int) > 65536 then (some (([] : List Int), 12)) else (F0.l1 k x28 x29 x30 x51 x52 (wrap64 (x53 + 1)) x257000 x257001 x259000 x259001 x259002)) else (none)) else (none)) else (F0.l2 k x28 x29 x30 x259002 (x259002.length : Int) 0 x257000 x257001)
def F0.l2 : Nat → List (S66) → Int → Int → List Int → Int → Int → ByteArray → List (S66) → Option (List Int × Int)
 | 0, _, _, _, _, _, _, _, _ => none
 | k + 1, x28, x29, x30, x62, x63, x64, x257000, x257001 => if x64 < x63 then (if 0 ≤ x64 then (if x64 < (x62.length : Int) then ((F40.f (rd x62 x64) (-1000000000000) 1000000000000).bind fun t261 => (if t261 = true then (F0.l2 k x28 x29 x30 x62 x63 (wrap64 (x64 + 1)) x257000 x257001) else (some (([] : List Int), 12)))) else (none)) else (none)) else (F0.l0 k x28 x29 (wrap64 (x30 + 1)) x257000 x257001)
def F0.l3 : Nat → List Int → List (S66) → Int → Int → Option (List Int × Int)
 | 0, _, _, _, _ => none
 | k + 1, x10, x81, x82, x83 => if x83 < x82 then (if 0 ≤ x83 then (if x83 < (x81.length : Int) then ((F39.f k x10 ((rd_T66 x81 x83).f0)).bind fun t270 => ((F19.f k t270 (((rd_T66 x81 x83).f1).length : Int)).bind fun t273 => (F0.l4 k t273 x81 x82 x83 ((rd_T66 x81 x83).f1) (((rd_T66 x81 x83).f1).length : Int) 0 ((rd_T66 x81 x83).f0) ((rd_T66 x81 x83).f1) ((rd_T66 x81 x83).f2)))) else (none)) else (none)) else (some (x10, 0))
def F0.l4 : Nat → List Int → List (S66) → Int → Int → List ByteArray → Int → Int → ByteArray → List ByteArray → List Int → Option (List Int × Int)
 | 0, _, _, _, _, _, _, _, _, _, _ => none
 | k + 1, x10, x81, x82, x83, x96, x97, x98, x270000, x270001, x270002 => if x98 < x97 then (if 0 ≤ x98 then (if x98 < (x96.length : Int) then ((F39.f k x10 (rdOf ByteArray.empty x96 x98)).bind fun t277 => (F0.l4 k t277 x81 x82 x83 x96 x97 (wrap64 (x98 + 1)) x270000 x270001 x270002)) else (none)) else (none)) else ((F19.f k x10 (x270002.length : Int)).bind fun t280 => (F0.l5 k t280 x81 x82 x83 x270002 (x270002.length : Int) 0))
def F0.l5 : Nat → List Int → List (S66) → Int → Int → List Int → Int → Int → Option (List Int × Int)
 | 0, _, _, _, _, _, _, _ => none
 | k + 1, x10, x81, x82, x83, x112, x113, x114 => if x114 < x113 then (if 0 ≤ x114 then (if x114 < (x112.length : Int) then (if (rd x112 x114) < 0 then ((F19.f k x10 (wrap64 ((wrap64 ((-2) * (rd x112 x114))) - 1))).bind fun t284 => (F0.l5 k t284 x81 x82 x83 x112 x113 (wrap64 (x114 + 1)))) else ((F19.f k x10 (wrap64 (2 * (rd x112 x114)))).bind fun t287 => (F0.l5 k t287 x81 x82 x83 x112 x113 (wrap64 (x114 + 1))))) else (none)) else (none)) else (F0.l3 k x10 x81 x82 (wrap64 (x83 + 1)))
end
def F0.f (k : Nat) (a0_0 : ByteArray) (l0_1 : List (S66)) : Option (List Int × Int) := if (a0_0.size : Int) > 65536 then (F0.j0 k true a0_0 l0_1) else (F0.j0 k (decide ((l0_1.length : Int) > 4096)) a0_0 l0_1)
theorem F0.mono_l : ∀ k, (∀ y0 y1 y2, LeO (F0.j0 k y0 y1 y2) (F0.j0 (k + 1) y0 y1 y2)) ∧ (∀ y0 y1 y2 y3 y4, LeO (F0.l0 k y0 y1 y2 y3 y4) (F0.l0 (k + 1) y0 y1 y2 y3 y4)) ∧ (∀ y0 y1 y2 y3 y4 y5 y6 y7 y8, LeO (F0.j2 k y0 y1 y2 y3 y4 y5 y6 y7 y8) (F0.j2 (k + 1) y0 y1 y2 y3 y4 y5 y6 y7 y8)) ∧ (∀ y0 y1 y2 y3 y4 y5 y6 y7 y8 y9 y10, LeO (F0.l1 k y0 y1 y2 y3 y4 y5 y6 y7 y8 y9 y10) (F0.l1 (k + 1) y0 y1 y2 y3 y4 y5 y6 y7 y8 y9 y10)) ∧ (∀ y0 y1 y2 y3 y4 y5 y6 y7, LeO (F0.l2 k y0 y1 y2 y3 y4 y5 y6 y7) (F0.l2 (k + 1) y0 y1 y2 y3 y4 y5 y6 y7)) ∧ (∀ y0 y1 y2 y3, LeO (F0.l3 k y0 y1 y2 y3) (F0.l3 (k + 1) y0 y1 y2 y3)) ∧ (∀ y0 y1 y2 y3 y4 y5 y6 y7 y8 y9, LeO (F0.l4 k y0 y1 y2 y3 y4 y5 y6 y7 y8 y9) (F0.l4 (k + 1) y0 y1 y2 y3 y4 y5 y6 y7 y8 y9)) ∧ (∀ y0 y1 y2 y3 y4 y5 y6, LeO (F0.l5 k y0 y1 y2 y3 y4 y5 y6) (F0.l5 (k + 1) y0 y1 y2 y3 y4 y5 y6))
 | 0 => ⟨fun _ _ _ r h => by simp [F0.j0] at h, fun _ _ _ _ _ r h => by simp [F0.l0] at h, fun _ _ _ _ _ _ _ _ _ r h => by simp [F0.j2] at h, fun _ _ _ _ _ _ _ _ _ _ _ r h => by simp [F0.l1] at h, fun _ _ _ _ _ _ _ _ r h => by simp [F0.l2] at h, fun _ _ _ _ r h => by simp [F0.l3] at h, fun _ _ _ _ _ _ _ _ _ _ r h => by simp [F0.l4] at h, fun _ _ _ _ _ _ _ r h => by simp [F0.l5] at h⟩
 | k + 1 => by
  obtain ⟨ih0, ih1, ih2, ih3, ih4, ih5, ih6, ih7⟩ := F0.mono_l k
  refine ⟨?_, ?_, ?_, ?_, ?_, ?_, ?_, ?_⟩
  all_goals intros
  all_goals first | unfold F0.j0 | unfold F0.l0 | unfold F0.j2 | unfold F0.l1 | unfold F0.l2 | unfold F0.l3 | unfold F0.l4 | unfold F0.l5
  all_goals
   repeat' with_reducible first | exact ih0 _ _ _ | exact ih1 _ _ _ _ _ | exact ih2 _ _ _ _ _ _ _ _ _ | exact ih3 _ _ _ _ _ _ _ _ _ _ _ | exact ih4 _ _ _ _ _ _ _ _ | exact ih5 _ _ _ _ | exact ih6 _ _ _ _ _ _ _ _ _ _ | exact ih7 _ _ _ _ _ _ _ | exact F19.mono _ _ _ | exact F39.mono _ _ _ | exact LeO.refl _ | exact LeO.none _ | refine LeO.ite ?_ ?_ | refine LeO.bind ?_ (fun _ => ?_)
theorem F0.mono : ∀ a0 a1 k, LeO (F0.f k a0 a1) (F0.f (k + 1) a0 a1) := by
 intro a0 a1 k
 obtain ⟨ih0, ih1, ih2, ih3, ih4, ih5, ih6, ih7⟩ := F0.mono_l k
 unfold F0.f
 repeat' with_reducible first | exact ih0 _ _ _ | exact ih1 _ _ _ _ _ | exact ih2 _ _ _ _ _ _ _ _ _ | exact ih3 _ _ _ _ _ _ _ _ _ _ _ | exact ih4 _ _ _ _ _ _ _ _ | exact ih5 _ _ _ _ | exact ih6 _ _ _ _ _ _ _ _ _ _ | exact ih7 _ _ _ _ _ _ _ | exact F19.mono _ _ _ | exact F39.mono _ _ _ | exact LeO.refl _ | exact LeO.none _ | refine LeO.ite ?_ ?_ | refine LeO.bind ?_ (fun _ => ?_)
def F0.T21 : Bool × List (List Nat × List Nat) := (true, [([], []), ([0], [0]), ([1], [1]), ([], []), ([3], [3]), ([4], [4]), ([2, 5, 2], [2, 5]), ([6, 6, 0, 1, 2, 3, 4, 5, 6], [6])])
def F0.B21 : List Nat := [0, 1, 3, 0, 8, 24, 63, 127]
theorem F0.tab21 : rtab .any (opsOf Try.f11 21) = F0.T21 := by kernel_rfl
theorem F0.bits21 : waitsOk F0.T21.2 F0.B21 = true := by kernel_rfl
def F0.T25 : Bool × List (List Nat × List Nat) := (true, [([], []), ([], []), ([1], [1]), ([0, 2], [0, 2]), ([], []), ([4], [4]), ([5], [5]), ([3, 6, 3], [3, 6]), ([7, 7, 0, 1, 2, 3, 4, 5, 6, 7], [0, 7])])
def F0.B25 : List Nat := [0, 0, 2, 7, 0, 16, 48, 127, 255]
theorem F0.tab25 : rtab .any (opsOf Try.f11 25) = F0.T25 := by kernel_rfl
theorem F0.bits25 : waitsOk F0.T25.2 F0.B25 = true := by kernel_rfl
set_option maxHeartbeats 8000000 in
set_option maxRecDepth 100000 in
theorem F0.calls (k : Nat) (a0_0 : ByteArray) (A0_1 : Option Addr) (c0_1 : Nat) (l0_1 : List (S66)) (r1 : List Int) (r2 : Int) (w : World) (hr0_1 : Kd.C k66 w A0_1 l0_1.length l0_1) (hc0_1 : l0_1.length ≤ c0_1) (h : F0.f k a0_0 l0_1 = some (r1, r2)) :
 Calls Try.prog 11 #[.agg #[.string a0_0, .slice A0_1 l0_1.length c0_1]] w fun e w' => ∃ v0_ : Value, e = .returned (.tuple #[v0_, .int .i64 r2]) ∧ Kd.R (Kd.int .u8) 5 w' w.heap.size (fun _ => True) v0_ r1 ∧ Below w.heap.size w w' := by
 have hu31 := Try.underlying31
 have hu66 := Try.underlying66
 have HR0_1 := zm hr0_1
 have HC0_1 := zm hc0_1
 clear hr0_1 hc0_1
 have HB := zm (Below.refl w.heap.size w)
 have H := h
 unfold F0.f at H
 clear h
 have HC2 := zm H
 clear H
 go_enter Try.func11, Try.ntmps11
 go_upto_region 1 with (first | ((with_reducible refine gate_dst (N := 1) rfl ?_); (try (refine gate_guard (by rfl) ?_; dsimp only)); refine box_event (by rfl) (N := 1) (by rfl) (cs := #[.string a0_0, .slice A0_1 l0_1.length c0_1]) (t := 31) zgs ?_; intro gb256 hg w3 hbox hb; have BK256 := zm (hbox); have GW256 := zge hg (below_size (zh HB)); have GE256 := zge hg (below_size (zh HB)); replace HB := zm (below_step (zh HB) hb); clear hb hbox hg))
 (try simp only [Act.put, List.setIfInBounds_toArray, List.set_cons_zero, List.set_cons_succ])
 go_cut [26] (fun v26 wc => ∃ (kq : Nat) (x26_1 : Bool), v26 = .bool x26_1 ∧ Aside0 (F0.j0 kq x26_1 a0_0 l0_1 = some (r1, r2)) ∧ Aside0 (kq ≤ k) ∧ Aside0 (wc.heap[gb256]? = some (.cells #[.string a0_0, (.slice A0_1 l0_1.length c0_1)] 31 (0, 0))) ∧ Aside0 (Below w.heap.size w wc))
 case first =>
  have H := HC2.out
  clear HC2
  by_cases c4 : (a0_0.size : Int) > 65536
  ·rw [if_pos c4] at H
   have c4b0 := decide_eq_true c4
   have c4b1 : decide (65536 < a0_0.size) = true := decide_eq_true (by omega)
   clear c4
   (first | rw [c4b0] | (simp only [i64_w, i32_w]; rw [c4b0]) | skip)
   have H' := zm H
   clear H
   obtain ⟨⟨_, _⟩, _, _⟩ := zc2 BK256
   go_wp2
   go_meet
   case rel => exact ⟨_, (true), zrs, H', ⟨by first | omega | exact Nat.le_refl _⟩, ⟨zb BK256⟩, ⟨zg HB⟩⟩
  rw [if_neg c4] at H
  have c4b0 := decide_eq_false c4
  have c4b1 : decide (65536 < a0_0.size) = false := decide_eq_false (by omega)
  clear c4
  (first | rw [c4b0] | (simp only [i64_w, i32_w]; rw [c4b0]) | skip)
  have H' := zm H
  clear H
  obtain ⟨⟨_, _⟩, _, _⟩ := zc2 BK256
  go_wp2
  go_meet
  case rel => exact ⟨_, (decide ((l0_1.length : Int) > 4096)), zrs, H', ⟨by first | omega | exact Nat.le_refl _⟩, ⟨zb BK256⟩, ⟨zg HB⟩⟩
 case rest =>
  clear HC2
  obtain ⟨kq, x26_1, rfl, HA, HJ1, BK256, HB⟩ := hcut
  cases kq with
  | zero => exact absurd HA.out (by simp [F0.j0])
  | succ kj1 =>
   have H := HA.out
   clear HA
   simp only [F0.j0] at H
   by_cases c7 : x26_1 = true
   ·subst c7
    rw [if_pos rfl] at H
    simp only [Option.some.injEq, Prod.mk.injEq] at H
    obtain ⟨rfl, rfl⟩ := H
    go_wp2
    go_ret2
    exact ⟨_, zre, by first | exact Kd.R_nil _ _ _ _ _ | exact Kd.N_nil _ _ _ _ _ | exact Kd.V_nil _ _ _ _ _ | exact Kd.Q_nil _ _ _ _ _ | exact Kd.S_nil _ _ _ _ _, zg HB⟩
   replace c7 := Bool.eq_false_iff.mpr c7
   subst c7
   rw [if_neg (show ¬ (false = true) by decide)] at H
   have H' := zm H
   clear H
   obtain ⟨⟨hcz8_0, hcz8_1⟩, hfz8_0, hfz8_1⟩ := zc2 BK256
   go_wp2
   go_loopg [30] kj1 (fun kq v30 w' => ∃ (x30_2 : Int), v30 = .int .i64 x30_2 ∧ Aside0 (F0.l0 kq l0_1 (l0_1.length : Int) x30_2 a0_0 l0_1 = some (r1, r2)) ∧ Aside0 (kq ≤ kj1) ∧ Aside0 (w'.heap[gb256]? = some (.cells #[.string a0_0, (.slice A0_1 l0_1.length c0_1)] 31 (0, 0))) ∧ Aside0 (Below w.heap.size w w'))
   case atStart => exact ⟨(0), zrs, H', ⟨Nat.le_refl _⟩, ⟨zb BK256⟩, ⟨zg HB⟩⟩
   case round =>
    clear H'
    try clear c7
    try clear hcz8_0 hcz8_1
    try clear hfz8_0 hfz8_1
    obtain ⟨x30_2, rfl, HA, HK2, BK256, HB⟩ := hrel
    cases gk with
    | zero => exact absurd HA.out (by simp [F0.l0])
    | succ k2 =>
     have H := HA.out
     clear HA
     simp only [F0.l0] at H
     by_cases c9 : x30_2 < (l0_1.length : Int)
     ·rw [if_pos c9] at H
      have c9b0 := decide_eq_true c9
      clear c9
      replace H := zif H
      obtain ⟨c10, H⟩ := H
      have c10b0 := decide_eq_true c10
      clear c10
      replace H := zif H
      obtain ⟨c11, H⟩ := H
      have c11b0 := decide_eq_true c11
      clear c11
      have HC12 := zm H
      clear H
      have p257 : 0 ≤ (x30_2 : Int) := of_decide_eq_true zas
      have q257 : x30_2 < (l0_1.length : Int) := of_decide_eq_true zas
      obtain ⟨ad257, A257_1, c257_1, A257_2, c257_2, e257, hx257_0, hx257_1, hx257_2, hl257_1, hi257_1, hl257_2, hi257_2⟩ := at_T66 HR0_1.out x30_2 p257 q257
      cases e257
      replace hx257_0 := zx HB hx257_0
      replace hx257_1 := zx HB hx257_1
      replace hx257_2 := zx HB hx257_2
      have HR257_1 := zm hi257_1
      have HC257_1 := zm hl257_1
      clear hi257_1 hl257_1
      have HR257_2 := zm hi257_2
      have HC257_2 := zm hl257_2
      clear hi257_2 hl257_2
      replace p257 := eq_true p257
      replace q257 := eq_true q257
      go_upto_region 6 with (first | ((with_reducible refine gate_dst (N := 5) rfl ?_); (try (refine gate_guard (by rfl) ?_; dsimp only)); refine box_event (by rfl) (N := 5) (by rfl) (cs := #[.string (⟨#[]⟩ : ByteArray), .slice none 0 0, .slice none 0 0]) (t := 66) zgs ?_; intro gb258 hg w13 hbox hb; have BK258 := zm (hbox); have GW258 := zge hg (below_size (zg HB)); have GE258 := zge hg (below_size (zg HB)); replace HB := zm (below_step (zg HB) hb); obtain ⟨NB256_258, NB258_256⟩ := znn hg (blk_lt (zb BK256)); replace BK256 := zbb BK256 hb; clear hb hbox hg; obtain ⟨_, _⟩ := zne NB258_256; obtain ⟨⟨hcz15_0, hcz15_1, hcz15_2⟩, hfz15_0, hfz15_1, hfz15_2⟩ := zc3 BK258))
      (try simp only [Act.put, List.setIfInBounds_toArray, List.set_cons_zero, List.set_cons_succ])
      go_cut [49] (fun v49 wc => ∃ (kq : Nat) (x49_11 : Bool), v49 = .bool x49_11 ∧ Aside0 (F0.j2 kq l0_1 (l0_1.length : Int) x30_2 x49_11 a0_0 l0_1 ((rd_T66 l0_1 x30_2).f0) ((rd_T66 l0_1 x30_2).f1) ((rd_T66 l0_1 x30_2).f2) = some (r1, r2)) ∧ Aside0 (kq ≤ k2) ∧ Aside0 (wc.heap[gb256]? = some (.cells #[.string a0_0, (.slice (some ad257) l0_1.length c0_1)] 31 (0, 0))) ∧ Aside0 (wc.heap[gb258]? = some (.cells #[.string ((rd_T66 l0_1 x30_2).f0), (.slice A257_1 ((rd_T66 l0_1 x30_2).f1).length c257_1), (.slice A257_2 ((rd_T66 l0_1 x30_2).f2).length c257_2)] 66 (0, 0))) ∧ Aside0 (Below w.heap.size w wc))
      case first =>
       have H := HC12.out
       clear HC12
       by_cases c16 : (((rd_T66 l0_1 x30_2).f0).size : Int) > 65536
       ·rw [if_pos c16] at H
        have c16b0 := decide_eq_true c16
        have c16b1 : decide (65536 < ((rd_T66 l0_1 x30_2).f0).size) = true := decide_eq_true (by omega)
        clear c16
        (first | rw [c16b0] | (simp only [i64_w, i32_w]; rw [c16b0]) | skip)
        have H' := zm H
        clear H
        obtain ⟨_, _⟩ := zne NB258_256
        obtain ⟨⟨_, _, _⟩, _, _, _⟩ := zc3 BK258
        go_wp2
        go_meet
        case rel => exact ⟨_, (true), zrs, H', ⟨by have := HJ1.out; have := HK2.out; first | omega | exact Nat.le_refl _⟩, ⟨zp BK256⟩, ⟨zp BK258⟩, ⟨zg HB⟩⟩
       rw [if_neg c16] at H
       have c16b0 := decide_eq_false c16
       have c16b1 : decide (65536 < ((rd_T66 l0_1 x30_2).f0).size) = false := decide_eq_false (by omega)
       clear c16
       (first | rw [c16b0] | (simp only [i64_w, i32_w]; rw [c16b0]) | skip)
       by_cases c19 : (((rd_T66 l0_1 x30_2).f1).length : Int) > 4096
       ·rw [if_pos c19] at H
        have c19b0 := decide_eq_true c19
        have c19b1 : decide (4096 < ((rd_T66 l0_1 x30_2).f1).length) = true := decide_eq_true (by omega)
        clear c19
        have H' := zm H
        clear H
        obtain ⟨_, _⟩ := zne NB258_256
        obtain ⟨⟨_, _, _⟩, _, _, _⟩ := zc3 BK258
        go_wp2
        go_meet
        case rel => exact ⟨_, (true), zrs, H', ⟨by have := HJ1.out; have := HK2.out; first | omega | exact Nat.le_refl _⟩, ⟨zp BK256⟩, ⟨zp BK258⟩, ⟨zg HB⟩⟩
       rw [if_neg c19] at H
       have c19b0 := decide_eq_false c19
       have c19b1 : decide (4096 < ((rd_T66 l0_1 x30_2).f1).length) = false := decide_eq_false (by omega)
       clear c19
       have H' := zm H
       clear H
       obtain ⟨_, _⟩ := zne NB258_256
       obtain ⟨⟨_, _, _⟩, _, _, _⟩ := zc3 BK258
       go_wp2
       go_meet
       case rel => exact ⟨_, (decide ((((rd_T66 l0_1 x30_2).f2).length : Int) > 4096)), zrs, H', ⟨by have := HJ1.out; have := HK2.out; first | omega | exact Nat.le_refl _⟩, ⟨zp BK256⟩, ⟨zp BK258⟩, ⟨zg HB⟩⟩
      case rest =>
       clear HC12
       try clear c7
       try clear c9
       try clear c9b0
       try clear c10
       try clear c10b0
       try clear c11
       try clear c11b0
       try clear hcz15_0 hcz15_1 hcz15_2
       try clear hcz8_0 hcz8_1
       try clear hfz15_0 hfz15_1 hfz15_2
       try clear hfz8_0 hfz8_1
       try clear hx257_0
       try clear hx257_1
       try clear hx257_2
       try clear p257
       try clear q257
       obtain ⟨kq, x49_11, rfl, HA, HJ11, BK256, BK258, HB⟩ := hcut
       cases kq with
       | zero => exact absurd HA.out (by simp [F0.j2])
       | succ kj11 =>
        have H := HA.out
        clear HA
        simp only [F0.j2] at H
        by_cases c24 : x49_11 = true
        ·subst c24
         rw [if_pos rfl] at H
         simp only [Option.some.injEq, Prod.mk.injEq] at H
         obtain ⟨rfl, rfl⟩ := H
         go_wp2
         go_ret2
         exact ⟨_, zre, by first | exact Kd.R_nil _ _ _ _ _ | exact Kd.N_nil _ _ _ _ _ | exact Kd.V_nil _ _ _ _ _ | exact Kd.Q_nil _ _ _ _ _ | exact Kd.S_nil _ _ _ _ _, zg HB⟩
        replace c24 := Bool.eq_false_iff.mpr c24
        subst c24
        rw [if_neg (show ¬ (false = true) by decide)] at H
        have H' := zm H
        clear H
        obtain ⟨_, _⟩ := zne NB258_256
        obtain ⟨⟨hcz26_0, hcz26_1, hcz26_2⟩, hfz26_0, hfz26_1, hfz26_2⟩ := zc3 BK258
        go_wp2
        go_loopg [53] kj11 (fun kq v53 w' => ∃ (x53_4 : Int), v53 = .int .i64 x53_4 ∧ Aside0 (F0.l1 kq l0_1 (l0_1.length : Int) x30_2 ((rd_T66 l0_1 x30_2).f1) (((rd_T66 l0_1 x30_2).f1).length : Int) x53_4 a0_0 l0_1 ((rd_T66 l0_1 x30_2).f0) ((rd_T66 l0_1 x30_2).f1) ((rd_T66 l0_1 x30_2).f2) = some (r1, r2)) ∧ Aside0 (kq ≤ kj11) ∧ Aside0 (w'.heap[gb256]? = some (.cells #[.string a0_0, (.slice (some ad257) l0_1.length c0_1)] 31 (0, 0))) ∧ Aside0 (w'.heap[gb258]? = some (.cells #[.string ((rd_T66 l0_1 x30_2).f0), (.slice A257_1 ((rd_T66 l0_1 x30_2).f1).length c257_1), (.slice A257_2 ((rd_T66 l0_1 x30_2).f2).length c257_2)] 66 (0, 0))) ∧ Aside0 (Below w.heap.size w w'))
        case atStart => exact ⟨(0), zrs, H', ⟨Nat.le_refl _⟩, ⟨zb BK256⟩, ⟨zb BK258⟩, ⟨zg HB⟩⟩
        case round =>
         clear H'
         try clear c7
         try clear c9
         try clear c9b0
         try clear c10
         try clear c10b0
         try clear c11
         try clear c11b0
         try clear c24
         try clear hcz15_0 hcz15_1 hcz15_2
         try clear hcz26_0 hcz26_1 hcz26_2
         try clear hcz8_0 hcz8_1
         try clear hfz15_0 hfz15_1 hfz15_2
         try clear hfz26_0 hfz26_1 hfz26_2
         try clear hfz8_0 hfz8_1
         try clear hx257_0
         try clear hx257_1
         try clear hx257_2
         try clear p257
         try clear q257
         obtain ⟨x53_4, rfl, HA, HK4, BK256, BK258, HB⟩ := hrel
         cases gk with
         | zero => exact absurd HA.out (by simp [F0.l1])
         | succ k4 =>
          have H := HA.out
          clear HA
          simp only [F0.l1] at H
          by_cases c27 : x53_4 < (((rd_T66 l0_1 x30_2).f1).length : Int)
          ·rw [if_pos c27] at H
           have c27b0 := decide_eq_true c27
           clear c27
           replace H := zif H
           obtain ⟨c28, H⟩ := H
           have c28b0 := decide_eq_true c28
           clear c28
           replace H := zif H
           obtain ⟨c29, H⟩ := H
           have c29b0 := decide_eq_true c29
           clear c29
           by_cases c30 : ((rdOf ByteArray.empty ((rd_T66 l0_1 x30_2).f1) x53_4).size : Int) > 65536
           ·rw [if_pos c30] at H
            have c30b0 := decide_eq_true c30
            have c30b1 : decide (65536 < (rdOf ByteArray.empty ((rd_T66 l0_1 x30_2).f1) x53_4).size) = true := decide_eq_true (by omega)
            clear c30
            simp only [Option.some.injEq, Prod.mk.injEq] at H
            obtain ⟨rfl, rfl⟩ := H
            have p259 : 0 ≤ (x53_4 : Int) := of_decide_eq_true zas
            have q259 : x53_4 < (((rd_T66 l0_1 x30_2).f1).length : Int) := of_decide_eq_true zas
            obtain ⟨ad259, e259, hx259_0⟩ := Kd.at_string HR257_1.out x53_4 p259 q259
            cases e259
            replace hx259_0 := zx HB hx259_0
            replace p259 := eq_true p259
            replace q259 := eq_true q259
            go_wp2
            go_ret2
            exact ⟨_, zre, by first | exact Kd.R_nil _ _ _ _ _ | exact Kd.N_nil _ _ _ _ _ | exact Kd.V_nil _ _ _ _ _ | exact Kd.Q_nil _ _ _ _ _ | exact Kd.S_nil _ _ _ _ _, zg HB⟩
           rw [if_neg c30] at H
           have c30b0 := decide_eq_false c30
           have c30b1 : decide (65536 < (rdOf ByteArray.empty ((rd_T66 l0_1 x30_2).f1) x53_4).size) = false := decide_eq_false (by omega)
           clear c30
           have H' := zm H
           clear H
           have p259 : 0 ≤ (x53_4 : Int) := of_decide_eq_true zas
           have q259 : x53_4 < (((rd_T66 l0_1 x30_2).f1).length : Int) := of_decide_eq_true zas
           obtain ⟨ad259, e259, hx259_0⟩ := Kd.at_string HR257_1.out x53_4 p259 q259
           cases e259
           replace hx259_0 := zx HB hx259_0
           replace p259 := eq_true p259
           replace q259 := eq_true q259
           go_wp2
           go_roundg k4
           case measure => have := HJ1.out; have := HK2.out; have := HJ11.out; have := HK4.out; omega
           case rel => exact ⟨(wrap64 (x53_4 + 1)), zrs, H', ⟨by have := HJ1.out; have := HK2.out; have := HJ11.out; have := HK4.out; omega⟩, ⟨zb BK256⟩, ⟨zb BK258⟩, ⟨zg HB⟩⟩
          rw [if_neg c27] at H
          have c27b0 := decide_eq_false c27
          clear c27
          have H' := zm H
          clear H
          obtain ⟨_, _⟩ := zne NB258_256
          obtain ⟨⟨hcz32_0, hcz32_1, hcz32_2⟩, hfz32_0, hfz32_1, hfz32_2⟩ := zc3 BK258
          go_wp2
          go_loopg [64] k4 (fun kq v64 w' => ∃ (x64_5 : Int), v64 = .int .i64 x64_5 ∧ Aside0 (F0.l2 kq l0_1 (l0_1.length : Int) x30_2 ((rd_T66 l0_1 x30_2).f2) (((rd_T66 l0_1 x30_2).f2).length : Int) x64_5 a0_0 l0_1 = some (r1, r2)) ∧ Aside0 (kq ≤ k4) ∧ Aside0 (w'.heap[gb256]? = some (.cells #[.string a0_0, (.slice (some ad257) l0_1.length c0_1)] 31 (0, 0))) ∧ Aside0 (w'.heap[gb258]? = some (.cells #[.string ((rd_T66 l0_1 x30_2).f0), (.slice A257_1 ((rd_T66 l0_1 x30_2).f1).length c257_1), (.slice A257_2 ((rd_T66 l0_1 x30_2).f2).length c257_2)] 66 (0, 0))) ∧ Aside0 (Below w.heap.size w w'))
          case atStart => exact ⟨(0), zrs, H', ⟨Nat.le_refl _⟩, ⟨zb BK256⟩, ⟨zb BK258⟩, ⟨zg HB⟩⟩
          case round =>
           clear H'
           try clear c7
           try clear c9
           try clear c9b0
           try clear c10
           try clear c10b0
           try clear c11
           try clear c11b0
           try clear c24
           try clear c27
           try clear c27b0
           try clear hcz15_0 hcz15_1 hcz15_2
           try clear hcz26_0 hcz26_1 hcz26_2
           try clear hcz32_0 hcz32_1 hcz32_2
           try clear hcz8_0 hcz8_1
           try clear hfz15_0 hfz15_1 hfz15_2
           try clear hfz26_0 hfz26_1 hfz26_2
           try clear hfz32_0 hfz32_1 hfz32_2
           try clear hfz8_0 hfz8_1
           try clear hx257_0
           try clear hx257_1
           try clear hx257_2
           try clear p257
           try clear q257
           obtain ⟨x64_5, rfl, HA, HK5, BK256, BK258, HB⟩ := hrel
           cases gk with
           | zero => exact absurd HA.out (by simp [F0.l2])
           | succ k5 =>
            have H := HA.out
            clear HA
            simp only [F0.l2] at H
            by_cases c33 : x64_5 < (((rd_T66 l0_1 x30_2).f2).length : Int)
            rotate_left
            ·rw [if_neg c33] at H
             have c33b0 := decide_eq_false c33
             clear c33
             have H' := zm H
             clear H
             go_wp2
             go_roundg k5
             case measure => have := HJ1.out; have := HK2.out; have := HJ11.out; have := HK4.out; have := HK5.out; omega
             case rel => exact ⟨(wrap64 (x30_2 + 1)), zrs, H', ⟨by have := HJ1.out; have := HK2.out; have := HJ11.out; have := HK4.out; have := HK5.out; omega⟩, ⟨zb BK256⟩, ⟨zg HB⟩⟩
            rw [if_pos c33] at H
            have c33b0 := decide_eq_true c33
            clear c33
            replace H := zif H
            obtain ⟨c34, H⟩ := H
            have c34b0 := decide_eq_true c34
            clear c34
            replace H := zif H
            obtain ⟨c35, H⟩ := H
            have c35b0 := decide_eq_true c35
            clear c35
            replace H := zbi H
            obtain ⟨t261, A36, H⟩ := H
            try dsimp only at H
            by_cases c37 : t261 = true
            rotate_left
            ·replace c37 := Bool.eq_false_iff.mpr c37
             subst c37
             rw [if_neg (show ¬ (false = true) by decide)] at H
             simp only [Option.some.injEq, Prod.mk.injEq] at H
             obtain ⟨rfl, rfl⟩ := H
             have p260 : 0 ≤ (x64_5 : Int) := of_decide_eq_true zas
             have q260 : x64_5 < (((rd_T66 l0_1 x30_2).f2).length : Int) := of_decide_eq_true zas
             obtain ⟨ad260, e260, hx260_0⟩ := Kd.at_int HR257_2.out x64_5 p260 q260
             cases e260
             replace hx260_0 := zx HB hx260_0
             replace p260 := eq_true p260
             replace q260 := eq_true q260
             go_wp2_with (first | ((with_reducible refine gate_callee (f := 38) rfl ?_); refine zgl 69 Try.func38 #[.int .i64 (rd ((rd_T66 l0_1 x30_2).f2) x64_5), .int .i64 (-1000000000000), .int .i64 1000000000000] ?_; (with_reducible refine (F40.calls (rd ((rd_T66 l0_1 x30_2).f2) x64_5) (-1000000000000) 1000000000000 false _ A36.out).mono ?_); rintro e w' ⟨rfl, ⟨nd, rfl⟩⟩; refine ⟨_, rfl, ?_⟩))
             go_ret2
             exact ⟨_, zre, by first | exact Kd.R_nil _ _ _ _ _ | exact Kd.N_nil _ _ _ _ _ | exact Kd.V_nil _ _ _ _ _ | exact Kd.Q_nil _ _ _ _ _ | exact Kd.S_nil _ _ _ _ _, zg HB⟩
            subst c37
            rw [if_pos rfl] at H
            have H' := zm H
            clear H
            have p260 : 0 ≤ (x64_5 : Int) := of_decide_eq_true zas
            have q260 : x64_5 < (((rd_T66 l0_1 x30_2).f2).length : Int) := of_decide_eq_true zas
            obtain ⟨ad260, e260, hx260_0⟩ := Kd.at_int HR257_2.out x64_5 p260 q260
            cases e260
            replace hx260_0 := zx HB hx260_0
            replace p260 := eq_true p260
            replace q260 := eq_true q260
            go_wp2_with (first | ((with_reducible refine gate_callee (f := 38) rfl ?_); refine zgl 69 Try.func38 #[.int .i64 (rd ((rd_T66 l0_1 x30_2).f2) x64_5), .int .i64 (-1000000000000), .int .i64 1000000000000] ?_; (with_reducible refine (F40.calls (rd ((rd_T66 l0_1 x30_2).f2) x64_5) (-1000000000000) 1000000000000 true _ A36.out).mono ?_); rintro e w' ⟨rfl, ⟨nd, rfl⟩⟩; refine ⟨_, rfl, ?_⟩))
            go_roundg k5
            case measure => have := HJ1.out; have := HK2.out; have := HJ11.out; have := HK4.out; have := HK5.out; omega
            case rel => exact ⟨(wrap64 (x64_5 + 1)), zrs, H', ⟨by have := HJ1.out; have := HK2.out; have := HJ11.out; have := HK4.out; have := HK5.out; omega⟩, ⟨zb BK256⟩, ⟨zb BK258⟩, ⟨zg HB⟩⟩
     rw [if_neg c9] at H
     have c9b0 := decide_eq_false c9
     clear c9
     replace H := zbi H
     obtain ⟨t262, A38, H⟩ := H
     try dsimp only at H
     replace H := zbi H
     obtain ⟨t265, A39, H⟩ := H
     try dsimp only at H
     have H' := zm H
     clear H
     try go_wp2
     replace BK256 := zm (blk_drew BK256.out)
     replace HB := zm (below_drew1 HB.out)
     refine start_ (n := 8) (S := fun w' => w'.cell? ⟨gb256, 0, none⟩ = some (.string a0_0) ∧ w'.cell? ⟨gb256, 1, none⟩ = some (.slice A0_1 l0_1.length c0_1)) (ds := []) (fl5_ 8 0) (by kernel_rfl) rfl rfl ⟨zd BK256 0, zd BK256 1⟩ (fun hHeld => ?_); refine with_tabW F0.tab21 F0.bits21 (fun HT_ HW_ => ?_)
     generalize wr.drew = w40 at BK256 HB hHeld ⊢
     refine zpu HT_ 0 73 (fl5_ 8 1) ?_
     refine zpu HT_ 3 76 (fl5_ 8 9) ?_
     refine ztk HT_ HW_ 1 74 (fl5_ 8 11) hHeld ?_
     refine ztk HT_ HW_ 4 77 (fl5_ 8 27) hHeld ?_
     refine zpu HT_ 5 78 (fl5_ 8 59) ?_
     refine zon HT_ 2 75 (fl5_ 8 63) (fun K hK => ?_)
     refine goes_ Try.func40 (by kernel_rfl) rfl #[.slice none 0 0, .string a0_0] (by rfl) rfl rfl zar ?_
     refine (F39.calls k2 (fun k_ => some k_ = (.slice none 0 0 : Value).ownBlock) (.slice none 0 0) ([] : List Int) a0_0 t262 w _ ?side1 ?side2 A38.out).mono ?_
     (case side1 => exact zg HB)
     (case side2 => exact Kd.R_nil _ _ _ _ _)
     rintro e w41 ⟨v263, rfl, ho0, hb, hkp⟩
     refine ⟨_, rfl, ?_⟩
     replace BK256 := zm (blk_kept (zb BK256) hkp (fun hs_ => (fun e_ => by simp [Value.ownBlock] at e_) hs_))
     have HO264 := zm (Kd.R_mono (ok' := fun k_ => True) ho0 (fun k_ hk_ => trivial))
     replace HB := zm (hb)
     (try clear hb hkp ho0)
     obtain ⟨Ao42, co42, eo42⟩ := Kd.R_slice HO264.out
     (first | subst eo42 | (injection eo42 with f1_ f2_ f3_; have f4_ := f1_.symm; have f5_ := f3_.symm; clear f1_ f2_ f3_; subst f4_; subst f5_))
     refine hK.out _ _ ⟨zd BK256 0, zd BK256 1⟩ (fun hHeld => ?_)
     clear hK K
     refine norm_ zac ?_
     refine zon HT_ 6 79 (fl5_ 8 127) (fun K hK => ?_)
     refine goes_ Try.func39 (by kernel_rfl) rfl #[.slice Ao42 t262.length co42, .int .i64 (l0_1.length : Int)] (by rfl) rfl rfl zar ?_
     with_reducible refine (F19.calls k2 (fun k_ => some k_ = (.slice Ao42 t262.length co42 : Value).ownBlock) (.slice Ao42 t262.length co42) t262 (l0_1.length : Int) t265 w _ ?side1 ?side2 A39.out).mono ?_
     (case side1 => exact zg HB)
     (case side2 => exact Kd.R_tight rfl HO264.out)
     rintro e w43 ⟨v266, rfl, ho0, hb, hkp⟩
     refine ⟨_, rfl, ?_⟩
     replace BK256 := zm (blk_kept (zb BK256) hkp (fun hs_ => (fun e_ => (Kd.R_ne HO264.out BK256.out (by decide)) e_) hs_))
     have HO267 := zm (Kd.R_mono (ok' := fun k_ => True) ho0 (fun k_ hk_ => trivial))
     replace HB := zm (hb)
     clear HO264
     (try clear hb hkp ho0)
     refine hK.out _ _ ⟨zd BK256 0, zd BK256 1⟩ (fun hHeld => ?_)
     clear hK K
     refine norm_ zac ?_
     refine zpu HT_ 7 10 (fl5_ 8 255) ?_
     refine done_ (done_of HT_.out (by kernel_rfl)) ?_
     obtain ⟨⟨hcz44_0, hcz44_1⟩, hfz44_0, hfz44_1⟩ := zc2 BK256
     try go_wp2
     go_loopg [10, 83] k2 (fun kq v10 v83 w' => ∃ (x10_3 : List Int) (x83_3 : Int), v83 = .int .i64 x83_3 ∧ Aside0 (F0.l3 kq x10_3 l0_1 (l0_1.length : Int) x83_3 = some (r1, r2)) ∧ Aside0 (kq ≤ k2) ∧ Aside0 (Kd.R (Kd.int .u8) 5 w' w.heap.size (fun _ => True) v10 x10_3) ∧ Aside0 (w'.heap[gb256]? = some (.cells #[.string a0_0, (.slice A0_1 l0_1.length c0_1)] 31 (0, 0))) ∧ Aside0 (Below w.heap.size w w'))
     case atStart => exact ⟨(t265), (0), zrs, H', ⟨Nat.le_refl _⟩, ⟨zr HO267⟩, ⟨zb BK256⟩, ⟨zg HB⟩⟩
     case round =>
      clear H'
      try clear c7
      try clear c9
      try clear c9b0
      try clear hcz44_0 hcz44_1
      try clear hcz8_0 hcz8_1
      try clear hfz44_0 hfz44_1
      try clear hfz8_0 hfz8_1
      obtain ⟨x10_3, x83_3, rfl, HA, HK3, HO_10, BK256, HB⟩ := hrel
      cases gk with
      | zero => exact absurd HA.out (by simp [F0.l3])
      | succ k3 =>
       have H := HA.out
       clear HA
       simp only [F0.l3] at H
       by_cases c45 : x83_3 < (l0_1.length : Int)
       rotate_left
       ·rw [if_neg c45] at H
        have c45b0 := decide_eq_false c45
        clear c45
        simp only [Option.some.injEq, Prod.mk.injEq] at H
        obtain ⟨rfl, rfl⟩ := H
        go_wp2
        go_ret2
        exact ⟨_, zre, by (with_reducible repeat (first | apply Kd.R_alloc | apply Kd.R_drewN | apply Kd.R_drew)); exact HO_10.out, zg HB⟩

       rw [if_pos c45] at H
       have c45b0 := decide_eq_true c45
       clear c45
       replace H := zif H
       obtain ⟨c46, H⟩ := H
       have c46b0 := decide_eq_true c46
       clear c46
       replace H := zif H
       obtain ⟨c47, H⟩ := H
       have c47b0 := decide_eq_true c47
       clear c47
       replace H := zbi H
       obtain ⟨t270, A48, H⟩ := H
       try dsimp only at H
       replace H := zbi H
       obtain ⟨t273, A49, H⟩ := H
       try dsimp only at H
       have H' := zm H
       clear H
       have p268 : 0 ≤ (x83_3 : Int) := of_decide_eq_true zas
       have q268 : x83_3 < (l0_1.length : Int) := of_decide_eq_true zas
       obtain ⟨ad268, A268_1, c268_1, A268_2, c268_2, e268, hx268_0, hx268_1, hx268_2, hl268_1, hi268_1, hl268_2, hi268_2⟩ := at_T66 HR0_1.out x83_3 p268 q268
       cases e268
       replace hx268_0 := zx HB hx268_0
       replace hx268_1 := zx HB hx268_1
       replace hx268_2 := zx HB hx268_2
       have HR268_1 := zm hi268_1
       have HC268_1 := zm hl268_1
       clear hi268_1 hl268_1
       have HR268_2 := zm hi268_2
       have HC268_2 := zm hl268_2
       clear hi268_2 hl268_2
       replace p268 := eq_true p268
       replace q268 := eq_true q268
       try go_wp2_with (first | ((with_reducible refine gate_dst (N := 12) rfl ?_); (try (refine gate_guard (by rfl) ?_; dsimp only)); refine box_event (by rfl) (N := 12) (by rfl) (cs := #[.string (⟨#[]⟩ : ByteArray), .slice none 0 0, .slice none 0 0]) (t := 66) zgs ?_; intro gb269 hg w50 hbox hb; replace HO_10 := zm (Kd.R_below (zr HO_10) hb); have BK269 := zm (hbox); have GW269 := zge hg (below_size (zg HB)); have GE269 := zge hg (below_size (zg HB)); replace HB := zm (below_step (zg HB) hb); obtain ⟨NB256_269, NB269_256⟩ := znn hg (blk_lt (zb BK256)); replace BK256 := zbb BK256 hb; clear hb hbox hg; obtain ⟨_, _⟩ := zne NB269_256; obtain ⟨⟨hcz52_0, hcz52_1, hcz52_2⟩, hfz52_0, hfz52_1, hfz52_2⟩ := zc3 BK269))
       have n0_ : Aside0 (Kd.R (Kd.int .u8) 5 (((w50.setCell ⟨gb269, 0, none⟩ (.string ((rd_T66 l0_1 x83_3).f0))).setCell ⟨gb269, 1, none⟩ (.slice A268_1 ((rd_T66 l0_1 x83_3).f1).length c268_1)).setCell ⟨gb269, 2, none⟩ (.slice A268_2 ((rd_T66 l0_1 x83_3).f2).length c268_2)) w.heap.size (fun _ => True) u10 x10_3) := ⟨by (with_reducible repeat (first | apply Kd.R_alloc | apply Kd.R_drewN | apply Kd.R_drew)); exact Kd.R_mono (Kd.R_far (p := ⟨gb269, 2, none⟩) (Kd.R_far (p := ⟨gb269, 1, none⟩) (Kd.R_far (p := ⟨gb269, 0, none⟩) (Kd.R_types HO_10.out BK269.out (by decide)) (fun _ hk => hk.2) (.string ((rd_T66 l0_1 x83_3).f0))) (fun _ hk => hk.2) (.slice A268_1 ((rd_T66 l0_1 x83_3).f1).length c268_1)) (fun _ hk => hk.2) (.slice A268_2 ((rd_T66 l0_1 x83_3).f2).length c268_2)) (fun _ hk => trivial)⟩
       have n1_ : Aside0 ((((w50.setCell ⟨gb269, 0, none⟩ (.string ((rd_T66 l0_1 x83_3).f0))).setCell ⟨gb269, 1, none⟩ (.slice A268_1 ((rd_T66 l0_1 x83_3).f1).length c268_1)).setCell ⟨gb269, 2, none⟩ (.slice A268_2 ((rd_T66 l0_1 x83_3).f2).length c268_2)).heap[gb256]? = some (.cells #[.string a0_0, .slice (some ad268) l0_1.length c0_1] 31 (0, 0))) := ⟨zp BK256⟩
       have n2_ : Aside0 ((((w50.setCell ⟨gb269, 0, none⟩ (.string ((rd_T66 l0_1 x83_3).f0))).setCell ⟨gb269, 1, none⟩ (.slice A268_1 ((rd_T66 l0_1 x83_3).f1).length c268_1)).setCell ⟨gb269, 2, none⟩ (.slice A268_2 ((rd_T66 l0_1 x83_3).f2).length c268_2)).heap[gb269]? = some (.cells #[.string ((rd_T66 l0_1 x83_3).f0), .slice A268_1 ((rd_T66 l0_1 x83_3).f1).length c268_1, .slice A268_2 ((rd_T66 l0_1 x83_3).f2).length c268_2] 66 (0, 0))) := ⟨zp BK269⟩
       have n3_ : Aside0 (Below w.heap.size w (((w50.setCell ⟨gb269, 0, none⟩ (.string ((rd_T66 l0_1 x83_3).f0))).setCell ⟨gb269, 1, none⟩ (.slice A268_1 ((rd_T66 l0_1 x83_3).f1).length c268_1)).setCell ⟨gb269, 2, none⟩ (.slice A268_2 ((rd_T66 l0_1 x83_3).f2).length c268_2))) := ⟨zg HB⟩
       (try clear HO_10)
       (try clear BK256)
       (try clear BK269)
       (try clear HB)
       generalize (((w50.setCell ⟨gb269, 0, none⟩ (.string ((rd_T66 l0_1 x83_3).f0))).setCell ⟨gb269, 1, none⟩ (.slice A268_1 ((rd_T66 l0_1 x83_3).f1).length c268_1)).setCell ⟨gb269, 2, none⟩ (.slice A268_2 ((rd_T66 l0_1 x83_3).f2).length c268_2)) = w53 at n0_ n1_ n2_ n3_ ⊢
       have HO_10 := n0_
       have BK256 := n1_
       have BK269 := n2_
       have HB := n3_
       clear n0_ n1_ n2_ n3_
       replace HO_10 := zm (Kd.R_drew HO_10.out)
       replace BK256 := zm (blk_drew BK256.out)
       replace BK269 := zm (blk_drew BK269.out)
       replace HB := zm (below_drew1 HB.out)
       obtain ⟨Ao55, co55, eo55⟩ := Kd.R_slice HO_10.out
       (first | subst eo55 | (injection eo55 with f1_ f2_ f3_; have f4_ := f1_.symm; have f5_ := f3_.symm; clear f1_ f2_ f3_; subst f4_; subst f5_))
       refine start_ (n := 9) (S := fun w' => w'.cell? ⟨gb269, 0, none⟩ = some (.string ((rd_T66 l0_1 x83_3).f0)) ∧ w'.cell? ⟨gb269, 1, none⟩ = some (.slice A268_1 ((rd_T66 l0_1 x83_3).f1).length c268_1) ∧ w'.cell? ⟨gb269, 2, none⟩ = some (.slice A268_2 ((rd_T66 l0_1 x83_3).f2).length c268_2)) (ds := []) (fl5_ 9 0) (by kernel_rfl) rfl rfl ⟨zd BK269 0, zd BK269 1, zd BK269 2⟩ (fun hHeld => ?_); refine with_tabW F0.tab25 F0.bits25 (fun HT_ HW_ => ?_)
       generalize w53.drew = w54 at HO_10 BK256 BK269 HB hHeld ⊢
       refine zpu HT_ 0 87 (fl5_ 9 1) ?_
       refine zpu HT_ 1 88 (fl5_ 9 3) ?_
       refine zpu HT_ 4 91 (fl5_ 9 19) ?_
       refine ztk HT_ HW_ 2 89 (fl5_ 9 23) hHeld ?_
       refine ztk HT_ HW_ 5 92 (fl5_ 9 55) hHeld ?_
       refine zpu HT_ 6 93 (fl5_ 9 119) ?_
       refine zon HT_ 3 90 (fl5_ 9 127) (fun K hK => ?_)
       refine goes_ Try.func40 (by kernel_rfl) rfl #[.slice Ao55 x10_3.length co55, .string ((rd_T66 l0_1 x83_3).f0)] (by rfl) rfl rfl zar ?_
       with_reducible refine (F39.calls k3 (fun k_ => some k_ = (.slice Ao55 x10_3.length co55 : Value).ownBlock) (.slice Ao55 x10_3.length co55) x10_3 ((rd_T66 l0_1 x83_3).f0) t270 w _ ?side1 ?side2 A48.out).mono ?_
       (case side1 => exact zg HB)
       (case side2 => exact Kd.R_tight rfl HO_10.out)
       rintro e w56 ⟨v271, rfl, ho0, hb, hkp⟩
       refine ⟨_, rfl, ?_⟩
       replace BK256 := zm (blk_kept (zb BK256) hkp (fun hs_ => (fun e_ => (Kd.R_ne HO_10.out BK256.out (by decide)) e_) hs_))
       replace BK269 := zm (blk_kept (zb BK269) hkp (fun hs_ => (fun e_ => (Kd.R_ne HO_10.out BK269.out (by decide)) e_) hs_))
       have HO272 := zm (Kd.R_mono (ok' := fun k_ => True) ho0 (fun k_ hk_ => trivial))
       replace HB := zm (hb)
       clear HO_10
       (try clear hb hkp ho0)
       obtain ⟨Ao57, co57, eo57⟩ := Kd.R_slice HO272.out
       (first | subst eo57 | (injection eo57 with f1_ f2_ f3_; have f4_ := f1_.symm; have f5_ := f3_.symm; clear f1_ f2_ f3_; subst f4_; subst f5_))
       refine hK.out _ _ ⟨zd BK269 0, zd BK269 1, zd BK269 2⟩ (fun hHeld => ?_)
       clear hK K
       refine norm_ zac ?_
       refine zon HT_ 7 94 (fl5_ 9 255) (fun K hK => ?_)
       refine goes_ Try.func39 (by kernel_rfl) rfl #[.slice Ao57 t270.length co57, .int .i64 (((rd_T66 l0_1 x83_3).f1).length : Int)] (by rfl) rfl rfl zar ?_
       with_reducible refine (F19.calls k3 (fun k_ => some k_ = (.slice Ao57 t270.length co57 : Value).ownBlock) (.slice Ao57 t270.length co57) t270 (((rd_T66 l0_1 x83_3).f1).length : Int) t273 w _ ?side1 ?side2 A49.out).mono ?_
       (case side1 => exact zg HB)
       (case side2 => exact Kd.R_tight rfl HO272.out)
       rintro e w58 ⟨v274, rfl, ho0, hb, hkp⟩
       refine ⟨_, rfl, ?_⟩
       replace BK256 := zm (blk_kept (zb BK256) hkp (fun hs_ => (fun e_ => (Kd.R_ne HO272.out BK256.out (by decide)) e_) hs_))
       replace BK269 := zm (blk_kept (zb BK269) hkp (fun hs_ => (fun e_ => (Kd.R_ne HO272.out BK269.out (by decide)) e_) hs_))
       have HO275 := zm (Kd.R_mono (ok' := fun k_ => True) ho0 (fun k_ hk_ => trivial))
       replace HB := zm (hb)
       clear HO272
       (try clear hb hkp ho0)
       refine hK.out _ _ ⟨zd BK269 0, zd BK269 1, zd BK269 2⟩ (fun hHeld => ?_)
       clear hK K
       refine norm_ zac ?_
       refine zpu HT_ 8 10 (fl5_ 9 511) ?_
       refine done_ (done_of HT_.out (by kernel_rfl)) ?_
       obtain ⟨⟨hcz59_0, hcz59_1, hcz59_2⟩, hfz59_0, hfz59_1, hfz59_2⟩ := zc3 BK269
       try go_wp2
       go_loopg [10, 98] k3 (fun kq v10 v98 w' => ∃ (x10_4 : List Int) (x98_4 : Int), v98 = .int .i64 x98_4 ∧ Aside0 (F0.l4 kq x10_4 l0_1 (l0_1.length : Int) x83_3 ((rd_T66 l0_1 x83_3).f1) (((rd_T66 l0_1 x83_3).f1).length : Int) x98_4 ((rd_T66 l0_1 x83_3).f0) ((rd_T66 l0_1 x83_3).f1) ((rd_T66 l0_1 x83_3).f2) = some (r1, r2)) ∧ Aside0 (kq ≤ k3) ∧ Aside0 (Kd.R (Kd.int .u8) 5 w' w.heap.size (fun _ => True) v10 x10_4) ∧ Aside0 (w'.heap[gb256]? = some (.cells #[.string a0_0, (.slice (some ad268) l0_1.length c0_1)] 31 (0, 0))) ∧ Aside0 (w'.heap[gb269]? = some (.cells #[.string ((rd_T66 l0_1 x83_3).f0), (.slice A268_1 ((rd_T66 l0_1 x83_3).f1).length c268_1), (.slice A268_2 ((rd_T66 l0_1 x83_3).f2).length c268_2)] 66 (0, 0))) ∧ Aside0 (Below w.heap.size w w'))
       case atStart => exact ⟨(t273), (0), zrs, H', ⟨Nat.le_refl _⟩, ⟨zr HO275⟩, ⟨zb BK256⟩, ⟨zb BK269⟩, ⟨zg HB⟩⟩
       case round =>
        clear H'
        try clear c7
        try clear c9
        try clear c9b0
        try clear c45
        try clear c45b0
        try clear c46
        try clear c46b0
        try clear c47
        try clear c47b0
        try clear hcz44_0 hcz44_1
        try clear hcz52_0 hcz52_1 hcz52_2
        try clear hcz59_0 hcz59_1 hcz59_2
        try clear hcz8_0 hcz8_1
        try clear hfz44_0 hfz44_1
        try clear hfz52_0 hfz52_1 hfz52_2
        try clear hfz59_0 hfz59_1 hfz59_2
        try clear hfz8_0 hfz8_1
        try clear hx268_0
        try clear hx268_1
        try clear hx268_2
        try clear p268
        try clear q268
        obtain ⟨x10_4, x98_4, rfl, HA, HK4, HO_10, BK256, BK269, HB⟩ := hrel
        cases gk with
        | zero => exact absurd HA.out (by simp [F0.l4])
        | succ k4 =>
         have H := HA.out
         clear HA
         simp only [F0.l4] at H
         by_cases c60 : x98_4 < (((rd_T66 l0_1 x83_3).f1).length : Int)
         ·rw [if_pos c60] at H
          have c60b0 := decide_eq_true c60
          clear c60
          replace H := zif H
          obtain ⟨c61, H⟩ := H
          have c61b0 := decide_eq_true c61
          clear c61
          replace H := zif H
          obtain ⟨c62, H⟩ := H
          have c62b0 := decide_eq_true c62
          clear c62
          replace H := zbi H
          obtain ⟨t277, A63, H⟩ := H
          try dsimp only at H
          have H' := zm H
          clear H
          have p276 : 0 ≤ (x98_4 : Int) := of_decide_eq_true zas
          have q276 : x98_4 < (((rd_T66 l0_1 x83_3).f1).length : Int) := of_decide_eq_true zas
          obtain ⟨ad276, e276, hx276_0⟩ := Kd.at_string HR268_1.out x98_4 p276 q276
          cases e276
          replace hx276_0 := zx HB hx276_0
          replace p276 := eq_true p276
          replace q276 := eq_true q276
          obtain ⟨Ao64, co64, eo64⟩ := Kd.R_slice HO_10.out
          subst eo64
          go_wp2_with (first | ((with_reducible refine gate_callee (f := 40) rfl ?_); refine zgl 104 Try.func40 #[.slice Ao64 x10_4.length co64, .string (rdOf ByteArray.empty ((rd_T66 l0_1 x83_3).f1) x98_4)] ?_; (with_reducible refine (F39.calls k4 (fun k_ => some k_ = (.slice Ao64 x10_4.length co64 : Value).ownBlock) (.slice Ao64 x10_4.length co64) x10_4 (rdOf ByteArray.empty ((rd_T66 l0_1 x83_3).f1) x98_4) t277 w _ ?side1 ?side2 A63.out).mono ?_); (case side1 => exact zg HB); (case side2 => exact Kd.R_tight rfl HO_10.out); rintro e w65 ⟨v278, rfl, ho0, hb, hkp⟩; refine ⟨_, rfl, ?_⟩; replace BK256 := zm (blk_kept (zb BK256) hkp (fun hs_ => (fun e_ => (Kd.R_ne HO_10.out BK256.out (by decide)) e_) hs_)); replace BK269 := zm (blk_kept (zb BK269) hkp (fun hs_ => (fun e_ => (Kd.R_ne HO_10.out BK269.out (by decide)) e_) hs_)); have HO279 := zm (Kd.R_mono (ok' := fun k_ => True) ho0 (fun k_ hk_ => trivial)); replace HB := zm (hb); clear HO_10; (try clear hb hkp ho0)))
          go_roundg k4
          case measure => have := HJ1.out; have := HK2.out; have := HK3.out; have := HK4.out; omega
          case rel => exact ⟨(t277), (wrap64 (x98_4 + 1)), zrs, H', ⟨by have := HJ1.out; have := HK2.out; have := HK3.out; have := HK4.out; omega⟩, ⟨zr HO279⟩, ⟨zb BK256⟩, ⟨zb BK269⟩, ⟨zg HB⟩⟩
         rw [if_neg c60] at H
         have c60b0 := decide_eq_false c60
         clear c60
         replace H := zbi H
         obtain ⟨t280, A66, H⟩ := H
         try dsimp only at H
         have H' := zm H
         clear H
         obtain ⟨_, _⟩ := zne NB269_256
         obtain ⟨⟨hcz68_0, hcz68_1, hcz68_2⟩, hfz68_0, hfz68_1, hfz68_2⟩ := zc3 BK269
         obtain ⟨Ao69, co69, eo69⟩ := Kd.R_slice HO_10.out
         subst eo69
         go_wp2_with (first | ((with_reducible refine gate_callee (f := 39) rfl ?_); refine zgl 110 Try.func39 #[.slice Ao69 x10_4.length co69, .int .i64 (((rd_T66 l0_1 x83_3).f2).length : Int)] ?_; (with_reducible refine (F19.calls k4 (fun k_ => some k_ = (.slice Ao69 x10_4.length co69 : Value).ownBlock) (.slice Ao69 x10_4.length co69) x10_4 (((rd_T66 l0_1 x83_3).f2).length : Int) t280 w _ ?side1 ?side2 A66.out).mono ?_); (case side1 => exact zg HB); (case side2 => exact Kd.R_tight rfl HO_10.out); rintro e w70 ⟨v281, rfl, ho0, hb, hkp⟩; refine ⟨_, rfl, ?_⟩; replace BK256 := zm (blk_kept (zb BK256) hkp (fun hs_ => (fun e_ => (Kd.R_ne HO_10.out BK256.out (by decide)) e_) hs_)); replace BK269 := zm (blk_kept (zb BK269) hkp (fun hs_ => (fun e_ => (Kd.R_ne HO_10.out BK269.out (by decide)) e_) hs_)); have HO282 := zm (Kd.R_mono (ok' := fun k_ => True) ho0 (fun k_ hk_ => trivial)); replace HB := zm (hb); clear HO_10; (try clear hb hkp ho0); obtain ⟨⟨hcz71_0, hcz71_1, hcz71_2⟩, hfz71_0, hfz71_1, hfz71_2⟩ := zc3 BK269))
         go_loopg [10, 114] k4 (fun kq v10 v114 w' => ∃ (x10_5 : List Int) (x114_5 : Int), v114 = .int .i64 x114_5 ∧ Aside0 (F0.l5 kq x10_5 l0_1 (l0_1.length : Int) x83_3 ((rd_T66 l0_1 x83_3).f2) (((rd_T66 l0_1 x83_3).f2).length : Int) x114_5 = some (r1, r2)) ∧ Aside0 (kq ≤ k4) ∧ Aside0 (Kd.R (Kd.int .u8) 5 w' w.heap.size (fun _ => True) v10 x10_5) ∧ Aside0 (w'.heap[gb256]? = some (.cells #[.string a0_0, (.slice (some ad268) l0_1.length c0_1)] 31 (0, 0))) ∧ Aside0 (w'.heap[gb269]? = some (.cells #[.string ((rd_T66 l0_1 x83_3).f0), (.slice A268_1 ((rd_T66 l0_1 x83_3).f1).length c268_1), (.slice A268_2 ((rd_T66 l0_1 x83_3).f2).length c268_2)] 66 (0, 0))) ∧ Aside0 (Below w.heap.size w w'))
         case atStart => exact ⟨(t280), (0), zrs, H', ⟨Nat.le_refl _⟩, ⟨zr HO282⟩, ⟨zb BK256⟩, ⟨zb BK269⟩, ⟨zg HB⟩⟩
         case round =>
          clear H'
          try clear c7
          try clear c9
          try clear c9b0
          try clear c45
          try clear c45b0
          try clear c46
          try clear c46b0
          try clear c47
          try clear c47b0
          try clear c60
          try clear c60b0
          try clear hcz44_0 hcz44_1
          try clear hcz52_0 hcz52_1 hcz52_2
          try clear hcz59_0 hcz59_1 hcz59_2
          try clear hcz68_0 hcz68_1 hcz68_2
          try clear hcz71_0 hcz71_1 hcz71_2
          try clear hcz8_0 hcz8_1
          try clear hfz44_0 hfz44_1
          try clear hfz52_0 hfz52_1 hfz52_2
          try clear hfz59_0 hfz59_1 hfz59_2
          try clear hfz68_0 hfz68_1 hfz68_2
          try clear hfz71_0 hfz71_1 hfz71_2
          try clear hfz8_0 hfz8_1
          try clear hx268_0
          try clear hx268_1
          try clear hx268_2
          try clear p268
          try clear q268
          obtain ⟨x10_5, x114_5, rfl, HA, HK5, HO_10, BK256, BK269, HB⟩ := hrel
          cases gk with
          | zero => exact absurd HA.out (by simp [F0.l5])
          | succ k5 =>
           have H := HA.out
           clear HA
           simp only [F0.l5] at H
           by_cases c72 : x114_5 < (((rd_T66 l0_1 x83_3).f2).length : Int)
           rotate_left
           ·rw [if_neg c72] at H
            have c72b0 := decide_eq_false c72
            clear c72
            have H' := zm H
            clear H
            go_wp2
            go_roundg k5
            case measure => have := HJ1.out; have := HK2.out; have := HK3.out; have := HK4.out; have := HK5.out; omega
            case rel => exact ⟨(x10_5), (wrap64 (x83_3 + 1)), zrs, H', ⟨by have := HJ1.out; have := HK2.out; have := HK3.out; have := HK4.out; have := HK5.out; omega⟩, ⟨zr HO_10⟩, ⟨zb BK256⟩, ⟨zg HB⟩⟩
           rw [if_pos c72] at H
           have c72b0 := decide_eq_true c72
           clear c72
           replace H := zif H
           obtain ⟨c73, H⟩ := H
           have c73b0 := decide_eq_true c73
           clear c73
           replace H := zif H
           obtain ⟨c74, H⟩ := H
           have c74b0 := decide_eq_true c74
           clear c74
           by_cases c75 : (rd ((rd_T66 l0_1 x83_3).f2) x114_5) < 0
           rotate_left
           ·rw [if_neg c75] at H
            have c75b0 := decide_eq_false c75
            clear c75
            replace H := zbi H
            obtain ⟨t287, A79, H⟩ := H
            try dsimp only at H
            have H' := zm H
            clear H
            have p283 : 0 ≤ (x114_5 : Int) := of_decide_eq_true zas
            have q283 : x114_5 < (((rd_T66 l0_1 x83_3).f2).length : Int) := of_decide_eq_true zas
            obtain ⟨ad283, e283, hx283_0⟩ := Kd.at_int HR268_2.out x114_5 p283 q283
            cases e283
            replace hx283_0 := zx HB hx283_0
            replace p283 := eq_true p283
            replace q283 := eq_true q283
            obtain ⟨Ao80, co80, eo80⟩ := Kd.R_slice HO_10.out
            subst eo80
            go_wp2_with (first | ((with_reducible refine gate_callee (f := 39) rfl ?_); refine zgl 128 Try.func39 #[.slice Ao80 x10_5.length co80, .int .i64 (wrap64 (2 * (rd ((rd_T66 l0_1 x83_3).f2) x114_5)))] ?_; (with_reducible refine (F19.calls k5 (fun k_ => some k_ = (.slice Ao80 x10_5.length co80 : Value).ownBlock) (.slice Ao80 x10_5.length co80) x10_5 (wrap64 (2 * (rd ((rd_T66 l0_1 x83_3).f2) x114_5))) t287 w _ ?side1 ?side2 A79.out).mono ?_); (case side1 => exact zg HB); (case side2 => exact Kd.R_tight rfl HO_10.out); rintro e w81 ⟨v288, rfl, ho0, hb, hkp⟩; refine ⟨_, rfl, ?_⟩; replace BK256 := zm (blk_kept (zb BK256) hkp (fun hs_ => (fun e_ => (Kd.R_ne HO_10.out BK256.out (by decide)) e_) hs_)); replace BK269 := zm (blk_kept (zb BK269) hkp (fun hs_ => (fun e_ => (Kd.R_ne HO_10.out BK269.out (by decide)) e_) hs_)); have HO289 := zm (Kd.R_mono (ok' := fun k_ => True) ho0 (fun k_ hk_ => trivial)); replace HB := zm (hb); clear HO_10; (try clear hb hkp ho0)))
            go_roundg k5
            case measure => have := HJ1.out; have := HK2.out; have := HK3.out; have := HK4.out; have := HK5.out; omega
            case rel => exact ⟨(t287), (wrap64 (x114_5 + 1)), zrs, H', ⟨by have := HJ1.out; have := HK2.out; have := HK3.out; have := HK4.out; have := HK5.out; omega⟩, ⟨zr HO289⟩, ⟨zb BK256⟩, ⟨zb BK269⟩, ⟨zg HB⟩⟩
           rw [if_pos c75] at H
           have c75b0 := decide_eq_true c75
           clear c75
           replace H := zbi H
           obtain ⟨t284, A76, H⟩ := H
           try dsimp only at H
           have H' := zm H
           clear H
           have p283 : 0 ≤ (x114_5 : Int) := of_decide_eq_true zas
           have q283 : x114_5 < (((rd_T66 l0_1 x83_3).f2).length : Int) := of_decide_eq_true zas
           obtain ⟨ad283, e283, hx283_0⟩ := Kd.at_int HR268_2.out x114_5 p283 q283
           cases e283
           replace hx283_0 := zx HB hx283_0
           replace p283 := eq_true p283
           replace q283 := eq_true q283
           obtain ⟨Ao77, co77, eo77⟩ := Kd.R_slice HO_10.out
           subst eo77
           go_wp2_with (first | ((with_reducible refine gate_callee (f := 39) rfl ?_); refine zgl 124 Try.func39 #[.slice Ao77 x10_5.length co77, .int .i64 (wrap64 ((wrap64 ((-2) * (rd ((rd_T66 l0_1 x83_3).f2) x114_5))) - 1))] ?_; (with_reducible refine (F19.calls k5 (fun k_ => some k_ = (.slice Ao77 x10_5.length co77 : Value).ownBlock) (.slice Ao77 x10_5.length co77) x10_5 (wrap64 ((wrap64 ((-2) * (rd ((rd_T66 l0_1 x83_3).f2) x114_5))) - 1)) t284 w _ ?side1 ?side2 A76.out).mono ?_); (case side1 => exact zg HB); (case side2 => exact Kd.R_tight rfl HO_10.out); rintro e w78 ⟨v285, rfl, ho0, hb, hkp⟩; refine ⟨_, rfl, ?_⟩; replace BK256 := zm (blk_kept (zb BK256) hkp (fun hs_ => (fun e_ => (Kd.R_ne HO_10.out BK256.out (by decide)) e_) hs_)); replace BK269 := zm (blk_kept (zb BK269) hkp (fun hs_ => (fun e_ => (Kd.R_ne HO_10.out BK269.out (by decide)) e_) hs_)); have HO286 := zm (Kd.R_mono (ok' := fun k_ => True) ho0 (fun k_ hk_ => trivial)); replace HB := zm (hb); clear HO_10; (try clear hb hkp ho0)))
           go_roundg k5
           case measure => have := HJ1.out; have := HK2.out; have := HK3.out; have := HK4.out; have := HK5.out; omega
           case rel => exact ⟨(t284), (wrap64 (x114_5 + 1)), zrs, H', ⟨by have := HJ1.out; have := HK2.out; have := HK3.out; have := HK4.out; have := HK5.out; omega⟩, ⟨zr HO286⟩, ⟨zb BK256⟩, ⟨zb BK269⟩, ⟨zg HB⟩⟩
end Go.Proofs.Ytnpdmleglcbobaa.XFnLog
