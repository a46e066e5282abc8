/- impl.Fragments: what its contract is made of: slices.Chunk's iterator, the builder's WriteRune at this dump, the walk of every road. -/
import Derived.Test.YtcokeankiedfcaaDoorProg
import Derived.RangeFuncNested
import Derived.RangeFuncBox
import Derived.RangeFuncBound
import Derived.RangeFuncCalls
import Derived.RangeFuncLeaves
import Derived.RangeFuncFrom
import Derived.Shelf.Abstract
import Derived.WalkKit
import Derived.OwnWalkIn
import Derived.TacticsInMore
import Derived.LoopNIn
import Derived.LoopIn
import Derived.Maps.AppendAt
import Derived.Sort.EveryDepth
import Derived.Lib.Hide
import Derived.Sort.BigQuietIn
import Derived.Test.YtcokeankiedfcaaDoorWWords
import Derived.Test.YtcokeankiedfcaaDoorWMore
import Derived.Test.YtcokeankiedfcaaDoorWLast
import Derived.Test.YtcokeankiedfcaaDoorShelf
import Derived.Tactics
import Derived.KernelRfl
import Derived.Lib.Builder
import Derived.Shelf.Strings.BuilderX
import Derived.Shelf.Strings.Builder1
import Derived.RangeFuncWrites
import Derived.Shelf.RegionOpen
namespace Go.Proofs.YtcokeankiedfcaaDoor.Frag
set_option linter.unusedVariables false
/-! ### FrIt -/
section
open Go.BigFrame Go.RowKit Go.Shelf Go.Proofs.YtcokeankiedfcaaDoorW.PrintWords Go.Proofs.YtcokeankiedfcaaDoorW.PrintLast Go.Proofs.YtcokeankiedfcaaDoorW.PrintMore
attribute [local go_sem] Oper.semAt_some max2_int min2_int max_two min_two
theorem chunk_calls (A : Option Addr) (n c : Nat) (s : Nat) (hs : 1 ≤ s) (w : World) :
    Calls Tryd.prog 87 #[.slice A n c, .int .i64 (s : Int)] w fun e w' => e = .returned (.func (.func 112) #[] #[.pointer (some ⟨w.heap.size, 0, none⟩), .pointer (some ⟨w.heap.size + 1, 0, none⟩)]) ∧ w' = (w.alloc (.cells #[.slice A n c] 22)).alloc (.cells #[.int .i64 (s : Int)] 3) := by
  have d0 : decide ((s : Int) < 1) = false := decide_eq_false (by omega)
  go_enter Tryd.func87, Tryd.ntmps87
  go_wp2
  go_ret
  exact ⟨rfl, rfl⟩
abbrev Ch (n s : Nat) := {i : Nat // i * s < n}
def clen (n s i : Nat) : Nat := min s (n - i * s)
def cenc (ad : Addr) (n s : Nat) (x : Ch n s) : Array Value := #[.slice (some (ad.add (x.1 * s))) (clen n s x.1) (clen n s x.1)]
def nch (n s : Nat) : Nat := (n + s - 1) / s
theorem nch_eq {k m s : Nat} (hs : 1 ≤ s) (h1 : k = 0 ∨ (k - 1) * s < m) (h2 : ¬ k * s < m) : k = nch m s := by
  unfold nch
  symm
  apply Nat.div_eq_of_lt_le
  · rcases h1 with rfl | h1
    · rw [Nat.zero_mul]; exact Nat.zero_le _
    · cases k with
      | zero => rw [Nat.zero_mul]; exact Nat.zero_le _
      | succ j =>
        rw [Nat.add_sub_cancel] at h1
        rw [Nat.succ_mul]; omega
  · rw [Nat.succ_mul]; omega
def Bx (b1 b2 : Nat) (ad : Addr) (n c s : Nat) (W : World) : Prop := W.cell? ⟨b1, 0, none⟩ = some (.slice (some ad) n c) ∧ W.cell? ⟨b2, 0, none⟩ = some (.int .i64 (s : Int))
theorem stops1 (F : Fence) (n : Nat) (h7 : F.fn 112) (hro : F.round = none) (hn : 1 ≤ n) (l b1 b2 : Nat) (ad : Addr) (m c s : Nat) (hs : 1 ≤ s) (hs1 : s ≤ 1000) (hm : m ≤ 100000) (hmc : m ≤ c) (hc : c ≤ maxLen) (Kp : World → World → Prop) (hKp : ∀ W W', Kp W W' → Bx b1 b2 ad m c s W → Bx b1 b2 ad m c s W') (J Jx : List (Ch m s) → World → Prop) (hJd : ∀ p W n, J p W → J p (W.drewN n))
    (hY : ∀ pre x W, J pre W → pre.length < m → YieldAt F (n - 1) Tryd.prog l (cenc ad m s x) W fun e W' =>
      (e = .returned (.bool true) ∧ J (pre ++ [x]) W' ∧ Kp W W') ∨ (e = .returned (.bool false) ∧ Jx (pre ++ [x]) W'))
    (W : World) (hB : Bx b1 b2 ad m c s W) (h0 : J [] W) :
    CallsIn F n Tryd.prog 112 #[.func (.yield l) #[] #[], .pointer (some ⟨b1, 0, none⟩), .pointer (some ⟨b2, 0, none⟩)] W fun e W' => (∃ v, e = .returned v) ∧
      ((∃ ys : List (Ch m s), ys.map Subtype.val = List.range (nch m s) ∧ J ys W') ∨ (∃ pre, True ∧ Jx pre W')) := by
  refine callsIn_of_wp Tryd.func112 rfl h7 ?_ hro
  simp only [Tryd.ntmps112, List.size_toArray, List.length_cons, List.length_nil, Nat.reduceAdd, Nat.reduceSub, Array.replicate_succ, Array.replicate_zero, List.push_toArray, List.append_toArray, List.nil_append, List.cons_append]
  gi_wp2
  gi_loopw [4] (fun i wr => ∃ (k : Nat) (pre : List (Ch m s)), i = .int .i64 ((k * s : Nat) : Int) ∧ Hid (pre.map Subtype.val = List.range k) ∧ Hid (k = 0 ∨ (k - 1) * s < m) ∧ J pre wr ∧ Bx b1 b2 ad m c s wr)
    (fun i _ => m - (intOf i).toNat)
  case atStart => exact ⟨0, [], by rw [Nat.zero_mul]; rfl, rfl, Or.inl rfl, h0, hB⟩
  case round =>
    obtain ⟨k, pre, rfl, HP, HK, hJs, hx1, hx2⟩ := hrel
    by_cases hlt : k * s < m
    · have hlen : pre.length = k := by
        have := congrArg List.length HP.out
        rwa [List.length_map, List.length_range] at this
      have hks : (k + 1) * s = k * s + s := Nat.succ_mul k s
      have hY1 := fun nq => hY pre ⟨k, hlt⟩ (wr.drewN nq) (hJd _ _ _ hJs) (by
        rw [hlen]; exact Nat.lt_of_le_of_lt (Nat.le_mul_of_pos_right k hs) hlt)
      obtain ⟨pre2, hpre2⟩ : ∃ p, p = pre ++ [⟨k, hlt⟩] := ⟨_, rfl⟩
      have HP2 : Hid (pre2.map Subtype.val = List.range (k + 1)) := by
        show _ = _
        rw [hpre2, List.map_append, HP.out, List.range_succ]; rfl
      rw [← hpre2] at hY1
      unfold cenc clen at hY1
      dsimp only at hY1
      obtain ⟨i, hi⟩ : ∃ i, i = k * s := ⟨_, rfl⟩
      have HI := Lib.hid hi
      rw [← hi] at hlt hY1 hks ⊢
      have HKS := Lib.hid hks
      have HLT := Lib.hid hlt
      have hmn : (if m - i < s then ((m - i : Nat) : Int) else (s : Int)) = ((min s (m - i) : Nat) : Int) := by
        by_cases c : m - i < s
        · rw [if_pos c, Nat.min_eq_right (Nat.le_of_lt c)]
        · rw [if_neg c, Nat.min_eq_left (Nat.le_of_not_lt c)]
      have he1 : 1 ≤ min s (m - i) := by omega
      have he2 : i + min s (m - i) ≤ m := by omega
      have he3 : min s (m - i) ≤ s := Nat.min_le_left _ _
      have p1 : decide ((i : Int) < (m : Int)) = true := decide_eq_true (by omega)
      clear hJs hB h0 hY hi hks HP hlen HK hpre2
      gi_wp2
      refine wpIn_region_quiet_lit hro (by kernel_rfl) (by kernel_rfl) ?_
      repeat (gi_big_quiet_step (skip))
      refine wpQuietIn_nil ?_
      rintro _ ⟨nq, rfl⟩
      obtain ⟨fn, tmps, assign, body, hy, hR⟩ := hY1 nq
      clear hY1

      clear hmn
      generalize min s (m - i) = e at hy he1 he2 he3 ⊢
      have hw1 : wrap64 ((i : Int) + (e : Int)) = ((i + e : Nat) : Int) := by unfold wrap64; omega
      have hw2 : IntKind.i64.wrap ((i : Int) + (e : Int)) = ((i + e : Nat) : Int) := (i64_w _).trans hw1
      have hz1 : i + e - i = e := by omega
      have hx1' : (wr.drewN nq).cell? ⟨b1, 0, none⟩ = some (.slice (some ad) m c) := hx1
      have hx2' : (wr.drewN nq).cell? ⟨b2, 0, none⟩ = some (.int .i64 (s : Int)) := hx2
      gi_wp2
      refine hR.mono ?_
      rintro e3 W3 (⟨rfl, hJ3, hk3⟩ | ⟨rfl, hJx3⟩)
      · obtain ⟨hy1, hy2⟩ := hKp _ _ hk3 ⟨hx1', hx2'⟩
        have hw3 : wrap64 ((i : Int) + (s : Int)) = ((i + s : Nat) : Int) := by unfold wrap64; omega
        have hw4 : IntKind.i64.wrap ((i : Int) + (s : Int)) = ((i + s : Nat) : Int) := (i64_w _).trans hw3
        clear hx1 hx2 hx1' hx2' hw1 hw2 p1
        gi_wp2
        go_roundw
        case rel => exact ⟨k + 1, pre2, by rw [HKS.out]; rfl, HP2, Or.inr (by rw [Nat.add_sub_cancel, ← HI.out]; exact HLT.out), hJ3, hy1, hy2⟩
        case measure =>
          have := HLT.out
          simp only [intOf]
          omega
      · gi_wp2
        refine bodyPost_ret (results_none rfl _ _ _) rfl ?_
        exact ⟨⟨_, rfl⟩, .inr ⟨_, trivial, hJx3⟩⟩
    · have hk : k = nch m s := nch_eq hs HK.out hlt
      subst hk
      have p1 : decide (((nch m s * s : Nat) : Int) < (m : Int)) = false := decide_eq_false (by omega)
      have HP2 := Lib.hid HP.out
      clear HP HK hB h0 hY
      gi_wp2
      go_end0
      exact ⟨⟨_, rfl⟩, .inl ⟨pre, HP2.out, hJs⟩⟩
theorem stops0 (F : Fence) (n : Nat) (h7 : F.fn 112) (hro : F.round = none) (l b1 b2 : Nat) (A : Option Addr) (c s : Nat) (J : List (Ch 0 s) → World → Prop) (W : World) (hB : W.cell? ⟨b1, 0, none⟩ = some (.slice A 0 c)) (h0 : J [] W) :
    CallsIn F n Tryd.prog 112 #[.func (.yield l) #[] #[], .pointer (some ⟨b1, 0, none⟩), .pointer (some ⟨b2, 0, none⟩)] W fun e W' => (∃ v, e = .returned v) ∧ J [] W' := by
  refine callsIn_of_wp Tryd.func112 rfl h7 ?_ hro
  simp only [Tryd.ntmps112, List.size_toArray, List.length_cons, List.length_nil, Nat.reduceAdd, Nat.reduceSub, Array.replicate_succ, Array.replicate_zero, List.push_toArray, List.append_toArray, List.nil_append, List.cons_append]
  gi_wp2
  gi_loopw [4] (fun i wr => i = .int .i64 0 ∧ J [] wr ∧ wr.cell? ⟨b1, 0, none⟩ = some (.slice A 0 c)) (fun _ _ => 0)
  case atStart => exact ⟨rfl, h0, hB⟩
  case round =>
    obtain ⟨rfl, hJs, hb⟩ := hrel
    gi_wp2
    go_end0
    exact ⟨⟨_, rfl⟩, hJs⟩
def Bxo (b1 b2 : Nat) (A : Option Addr) (n c s : Nat) (W : World) : Prop := W.cell? ⟨b1, 0, none⟩ = some (.slice A n c) ∧ W.cell? ⟨b2, 0, none⟩ = some (.int .i64 (s : Int))
def Kept2 (b1 b2 : Nat) (W W' : World) : Prop := W'.heap[b1]? = W.heap[b1]? ∧ W'.heap[b2]? = W.heap[b2]?
theorem cell_heap {W W' : World} {b : Nat} (h : W'.heap[b]? = W.heap[b]?) (i : Nat) : W'.cell? ⟨b, i, none⟩ = W.cell? ⟨b, i, none⟩ := World.cell?_of_block (w := W) (w' := W') (a := ⟨b, i, none⟩) h
def adOf (A : Option Addr) : Addr := A.getD ⟨0, 0, none⟩
theorem stops (F : Fence) (n : Nat) (h7 : F.fn 112) (hro : F.round = none) (hn : 1 ≤ n) (b1 b2 : Nat) (A : Option Addr) (m c s : Nat) (hA : m = 0 ∨ ∃ ad, A = some ad) (hs : 1 ≤ s) (hs1 : s ≤ 1000) (hm : m ≤ 100000) (hmc : m ≤ c) (hc : c ≤ maxLen) (w : World) (hb1 : b1 < w.heap.size) (hb2 : b2 < w.heap.size) (hB : Bxo b1 b2 A m c s w) :
    SeqStopsK F n Tryd.prog 112 #[.pointer (some ⟨b1, 0, none⟩), .pointer (some ⟨b2, 0, none⟩)] (cenc (adOf A) m s) (Kept2 b1 b2) (fun ys => ys.map Subtype.val = List.range (nch m s)) (fun _ => True) m w := fun l J Jx W hW hJ hJx hY h0 => by
  have hB' : Bxo b1 b2 A m c s W := ⟨(hW.cell (p := ⟨b1, 0, none⟩) hb1).trans hB.1, (hW.cell (p := ⟨b2, 0, none⟩) hb2).trans hB.2⟩
  rcases hA with rfl | ⟨ad, rfl⟩
  · refine (stops0 F n h7 hro l b1 b2 A c s J W hB'.1 h0).mono fun e W' ⟨he, hj⟩ => ⟨he, .inl ⟨[], ?_, hj⟩⟩
    have : nch 0 s = 0 := (nch_eq hs (Or.inl rfl) (by omega)).symm
    rw [this]; rfl
  · exact stops1 F n h7 hro hn l b1 b2 ad m c s hs hs1 hm hmc hc (Kept2 b1 b2) (fun W1 W2 hk hb => ⟨(cell_heap hk.1 0).trans hb.1, (cell_heap hk.2 0).trans hb.2⟩) J Jx
      (fun p W1 q hj => hJ p W1 _ none hj ⟨rfl, rfl, rfl, Nat.le_refl _, fun _ _ _ => rfl⟩ (fun r e => by cases e)) hY W hB' h0
end
/-! ### FrB -/
section
open Go.RowKit Go.Shelf Go.Proofs.YtcokeankiedfcaaDoorW.PrintWords
theorem szB : (Tryd.prog.info? 104).map (·.size) = some 2 := by kernel_rfl
theorem liB : liesAt Tryd.prog Tryd.prog.depth 104 (2 / Tryd.prog.cellsOf 104) 0 104 1 = true := by kernel_rfl
set_option maxHeartbeats 1000000 in
set_option maxRecDepth 100000 in
theorem copy_used (b : Nat) (w : World) (h0 : w.cell? ⟨b, 0, none⟩ = some (.pointer (some ⟨b, 0, none⟩))) :
    Calls Tryd.prog 114 #[.pointer (some ⟨b, 0, none⟩)] w fun e w' => e = .returned (.tuple #[]) ∧ w' = w := by
  obtain ⟨j, hj, _⟩ := Option.map_eq_some_iff.1 szB
  go_enter Tryd.func114, Tryd.ntmps114
  go_wp2
  rw [Lib.run_neq_ptr_same w _ Tryd.underlying102 hj]
  go_wp2
  go_end0
  exact ⟨rfl, rfl⟩
set_option maxHeartbeats 1000000 in
set_option maxRecDepth 100000 in
theorem copy_fresh (b : Nat) (w : World) (h0 : w.cell? ⟨b, 0, none⟩ = some (.pointer none)) (hs : w.shape? b = some (104, 2)) (hf : w.frozen? ⟨b, 0, none⟩ = false) :
    Calls Tryd.prog 114 #[.pointer (some ⟨b, 0, none⟩)] w fun e w' => e = .returned (.tuple #[]) ∧ w' = w.setCell ⟨b, 0, none⟩ (.pointer (some ⟨b, 0, none⟩)) := by
  obtain ⟨j, hj, hjs⟩ := Option.map_eq_some_iff.1 szB
  go_enter Tryd.func114, Tryd.ntmps114
  go_wp2
  rw [Lib.run_to_unsafe w ⟨b, 0, none⟩ Tryd.underlying102 Tryd.underlying151 hj (by rw [hjs]; decide) hs (Nat.zero_lt_succ 1)]
  simp only [Result.andThen]
  rw [Oper.upon_value]
  go_wp2
  rw [run_callFunc_extern Tryd.func122 (by kernel_rfl) (by kernel_rfl) (by kernel_rfl) (e := Extern.AbiNoEscape.same) (by kernel_rfl)]
  rw [Lib.run_noEscape]
  simp only [Result.andThen]
  rw [Oper.upon_value]
  go_wp2
  rw [Lib.run_from_unsafe w ⟨b, 0, none⟩ Tryd.underlying151 Tryd.underlying102 hj hs liB]
  simp only [Result.andThen]
  rw [Oper.upon_value]
  go_wp2
  go_end0
  exact ⟨rfl, rfl⟩
theorem copy_check (B b : Nat) (bs : List Value) (w : World) (h : Lib.IsBuilder 104 5 B b bs w) :
    Calls Tryd.prog 114 #[.pointer (some ⟨b, 0, none⟩)] w fun e w' => e = .returned (.tuple #[]) ∧ Lib.BuilderAt 104 5 B b (.pointer (some ⟨b, 0, none⟩)) bs w' ∧ Below B w w' := by
  rcases h with h | h
  · exact (copy_fresh b w h.cell0 h.shape h.frozen0).mono fun e w' ⟨he, hw⟩ => ⟨he, by rw [hw]; exact h.used _, by rw [hw]; exact (Below.refl B w).setCell (p := ⟨b, 0, none⟩) h.1 _⟩
  · exact (copy_used b w h.cell0).mono fun e w' ⟨he, hw⟩ => ⟨he, by rw [hw]; exact h, by rw [hw]; exact Below.refl B _⟩
theorem ahead {B b : Nat} {W w1 w2 : World} {p v : Value} {bs : List Value} {n : Nat} {o : Obj} (hbk : w1.heap[b]? = some (.cells #[p, v] 104 (0, 0))) (hne : v.ownBlock ≠ some b) (hown : w1.ownsRow B 5 1 v n bs) (hg : (w1.alloc o).grownBy w2 v.ownBlock) (hb : Below B W w1) (hB : B ≤ w1.heap.size) :
    w2.heap[b]? = some (.cells #[p, v] 104 (0, 0)) ∧ Below B W w2 := by
  refine ⟨(hg.block b (by rw [World.size_alloc]; exact Nat.lt_succ_of_lt (blk_lt hbk)) (fun e => hne e.symm)).trans (blk_alloc hbk o), ?_⟩
  refine (hb.alloc hB o).grown hg (by rw [World.size_alloc]; exact Nat.le_succ_of_le hB) (fun k hk => own_base hown k hk)
theorem put_ {B b : Nat} {w2 : World} {p v v' : Value} {bs cs : List Value} (hB : B ≤ b) (hbk : w2.heap[b]? = some (.cells #[p, v] 104 (0, 0))) (hown : w2.ownsRow B 5 1 v' (bs.length + cs.length) (bs ++ cs)) :
    Lib.BuilderAt 104 5 B b p (bs ++ cs) (w2.setCell ⟨b, 1, none⟩ v') := by
  rw [← List.length_append] at hown
  exact Lib.BuilderAt.put hB hbk hown (by decide)
set_option maxHeartbeats 4000000 in
set_option maxRecDepth 100000 in
theorem write_rune (B b : Nat) (bs : List Value) (r : Int) (hr0 : 0 ≤ r) (hr1 : r ≤ 2147483647) (w : World) (h : Lib.IsBuilder 104 5 B b bs w) (hlen : bs.length + 4 ≤ 140737488355328) (hBw : B ≤ w.heap.size) :
    Calls Tryd.prog 89 #[.pointer (some ⟨b, 0, none⟩), .int .i32 r] w fun e w' => (∃ v, e = .returned v) ∧ Lib.IsBuilder 104 5 B b (bs ++ Lib.runeCells r) w' ∧ Below B w w' := by
  have hcc := copy_check B b bs w h
  go_enter Tryd.func89, Tryd.ntmps89
  go_wp2_with (first
    | (go_at_call 114; refine hcc.mono ?_; rintro e w1 ⟨rfl, ⟨hB, v, hbk, hown, hne⟩, hb1⟩; obtain ⟨ao, cap, rfl⟩ : ∃ ao cap, v = .slice ao bs.length cap := own_slice hown; have hc1 : w1.cell? ⟨b, 1, none⟩ = some (.slice ao bs.length cap) := (Lib.cell_of_heap hbk 1)))
  refine (Tryd.utf8_AppendRune_plain B _ bs.length bs r (by omega) hr1 w1 hown hlen (Nat.le_trans hBw hb1.size)).mono ?_
  rintro e w2 ⟨v2, rfl, hown2, ⟨o, hg2⟩⟩
  obtain ⟨hbk2, hb2⟩ := ahead hbk hne hown hg2 hb1 (Nat.le_trans hBw hb1.size)
  obtain ⟨a2, c2, rfl⟩ := own_slice hown2
  have hc2 : w2.cell? ⟨b, 1, none⟩ = some (.slice ao bs.length cap) := (Lib.cell_of_heap hbk2 1)
  have hf2 : w2.frozen? ⟨b, 1, none⟩ = false := Lib.frozen_of_heap hbk2 1
  have hx := Lib.hid (put_ hB hbk2 hown2)
  have hy := Lib.hid (hb2.setCell (p := ⟨b, 1, none⟩) hB (.slice a2 (bs.length + (Lib.runeCells r).length) c2))
  have hc3 : (w2.setCell ⟨b, 1, none⟩ (.slice a2 (bs.length + (Lib.runeCells r).length) c2)).cell? ⟨b, 1, none⟩ = some (.slice a2 (bs.length + (Lib.runeCells r).length) c2) := World.cell?_setCell_same' _ _ _ (by rw [hc2]; rfl)
  clear hown2 hg2 hbk2 hb2 hown hbk hc1
  go_wp2
  go_ret2
  exact ⟨⟨_, rfl⟩, Or.inr hx.out, hy.out⟩
end
/-! ### FrC -/
section
open Go.BigFrame Go.RowKit Go.Shelf Go.Proofs.YtcokeankiedfcaaDoorW.PrintWords Go.Proofs.YtcokeankiedfcaaDoorW.PrintLast Go.Proofs.YtcokeankiedfcaaDoorW.PrintMore
attribute [local go_sem] Oper.semAt_some max2_int min2_int max_two min_two
def chunk (l : List Int) (s i : Nat) : List Int := (l.drop (i * s)).take s
def enc (l : List Int) : ByteArray := ⟨(l.flatMap Lib.encodeRune).toArray⟩
def out (l : List Int) (s : Nat) (is : List Nat) : List ByteArray := is.flatMap fun i => if (chunk l s i).contains 91 = true then [enc (chunk l s i)] else []
def Fr (B o s : Nat) (cv : Value) (l : List Int) (W : World) (xs : List ByteArray) : Prop :=
  ∃ v, Boxed W o 39 v ∧ Boxed W (o + 1) 22 cv ∧ Boxed W (o + 1 + 1) 3 (.int .i64 (s : Int)) ∧ Kd.R Kd.string 9 W B (fun _ => True) v xs ∧ Kd.R (Kd.int .i64) 3 W B (fun _ => True) cv l
theorem Boxed.own_ {W W' : World} {b : Nat} {t : TypeId} {v : Value} {row : Option Nat} (h : Boxed W b t v) (hg : W.grownBy W' row) (hr : ∀ r, row = some r → ∃ o : Obj, W.heap[r]? = some o ∧ o.isCells = false) : Boxed W' b t v :=
  h.kept hg (fun e => by obtain ⟨o', ho, hc⟩ := hr b e.symm; rw [show W.heap[b]? = _ from h] at ho; cases ho; cases hc)
theorem R_own_ {α : Type} {d : Kd α} {e : Nat} {w w' : World} {base : Nat} {v : Value} {xs : List α} {row : Option Nat} (h : d.R e w base (fun _ => True) v xs) (hg : w.grownBy w' row) (hr : ∀ r, row = some r → ∃ o : Obj, w.heap[r]? = some o ∧ o.isCells = false) : d.R e w' base (fun _ => True) v xs := by
  refine Kd.R_mono (Kd.R_step (Kd.R_bound h) (fun k hk hlt => hg.block k hlt (fun e_ => ?_))) (fun _ _ => trivial)
  obtain ⟨_, _, _, q, _, cells, hc⟩ := hk
  obtain ⟨o, ho, hoc⟩ := hr k e_.symm
  rw [hc] at ho
  cases ho
  cases hoc
theorem Fr_own (B o : Nat) (cv : Value) (l : List Int) (s : Nat) (n : Nat) : Own (fun (pre : List (Ch n s)) W => Fr B o s cv l W (out l s (pre.map Subtype.val))) := by
  rintro pre W W' row ⟨v, hv, hv1, hv2, h1, h2⟩ hg hr
  exact ⟨v, Boxed.own_ hv hg hr, Boxed.own_ hv1 hg hr, Boxed.own_ hv2 hg hr, R_own_ h1 hg hr, R_own_ h2 hg hr⟩
theorem blk_own {α : Type} {d : Kd α} {e : Nat} {w : World} {base : Nat} {ok : Nat → Prop} {v : Value} {xs : List α} (h : d.R e w base ok v xs) (k : Nat) (hk : v.ownBlock = some k) : ∃ cells, w.heap[k]? = some (.cells cells e (0, 0)) := by
  obtain ⟨inner, ho⟩ := Kd.R_own h
  exact own_typed ho k hk
theorem R_overRow {α β : Type} {d : Kd α} {d' : Kd β} {e e' : Nat} {w w' : World} {base : Nat} {ok : Nat → Prop} {v v' : Value} {xs : List α} {ys : List β} (h : d.R e w base (fun _ => True) v xs) (hr : d'.R e' w base ok v' ys) (hg : w.grownBy w' v'.ownBlock) (hne : ∀ q ∈ e :: d.E, q ≠ e') : d.R e w' base (fun _ => True) v xs := by
  refine Kd.R_mono (Kd.R_step (Kd.R_bound h) (fun k hk hlt => hg.block k hlt (fun e_ => ?_))) (fun _ _ => trivial)
  obtain ⟨_, _, _, q, hq, cells, hc⟩ := hk
  obtain ⟨cells', hc'⟩ := blk_own hr k e_.symm
  rw [hc] at hc'
  injection hc' with hc'
  injection hc' with _ h2
  exact hne q hq h2
theorem R_setBox {α : Type} {d : Kd α} {e t o : Nat} {w : World} {base : Nat} {v u u0 : Value} {xs : List α} (h : d.R e w base (fun _ => True) v xs) (hb : Boxed w o t u0) (ht : ∀ q ∈ e :: d.E, q ≠ t) : d.R e (w.setCell ⟨o, 0, none⟩ u) base (fun _ => True) v xs :=
  Kd.R_mono (Kd.R_far (Kd.R_types h (show w.heap[o]? = _ from hb) ht) (fun k hk => hk.2) u) (fun _ _ => trivial)
theorem Boxed.overRow {α : Type} {d : Kd α} {e t o : Nat} {w w' : World} {base : Nat} {ok : Nat → Prop} {v u0 : Value} {xs : List α} (hb : Boxed w o t u0) (hr : d.R e w base ok v xs) (hg : w.grownBy w' v.ownBlock) (ht : t ≠ e) : Boxed w' o t u0 :=
  hb.kept hg (fun e_ => by
    obtain ⟨cells, hc⟩ := blk_own hr o e_.symm
    rw [show w.heap[o]? = _ from hb] at hc
    injection hc with hc
    injection hc with _ h2
    exact ht h2)
theorem inf9 : (Tryd.prog.info? 9).map (fun i => (i.zero, i.size, i.bytes)) = some (some (.string ⟨#[]⟩), 1, 16) := by kernel_rfl
theorem app_run (W : World) (B : Nat) (v : Value) (xs : List ByteArray) (t : ByteArray) (hR : Kd.R Kd.string 9 W B (fun _ => True) v xs) (hl : xs.length ≤ 100000) (hB : B ≤ W.heap.size) :
    ∃ v7 w7, (Builtin.append_ #[39, 39] 39 #[v, .slice (some ⟨W.heap.size, 0, none⟩) 1 1]).run Tryd.prog (W.alloc (.cells #[.string t] 9)) = .ok v7 w7 ∧ Kd.R Kd.string 9 w7 B (fun _ => True) v7 (xs ++ [t]) ∧ (W.alloc (.cells #[.string t] 9)).grownBy w7 v.ownBlock := by
  obtain ⟨i0, hi, hz0, hz1, hz2⟩ := info_parts inf9
  have hown := (Kd.own_of_R hR).alloc (.cells #[.string t] 9)
  obtain ⟨v7, w7, hrun, h2, h3, _⟩ := run_append_own (P := Tryd.prog) (w := W.alloc (.cells #[.string t] 9)) B 39 39 9 i0 (.string ⟨#[]⟩) 1 16 Tryd.underlying39 hi hz0 hz1 hz2 rfl (by decide) v xs.length _ hown ⟨W.heap.size, 0, none⟩ 1 1 [.string t] rfl (cell_one_new _ _ _) (by intro u hu; rw [List.mem_singleton.1 hu]; rfl) (by unfold maxLen; omega) (by omega) (by rw [World.size_alloc]; omega)
  refine ⟨v7, w7, hrun, Kd.R_of_own ?_ (fun _ _ => trivial), h3⟩
  rw [List.length_append]
  have e : encs Value.string (xs ++ [t]) = encs Value.string xs ++ [Value.string t] := by unfold encs; rw [List.map_append]; rfl
  rw [e]
  exact h2
theorem KeepsOthers.of_below {W W' : World} (h : Below W.heap.size W W') : KeepsOthers W W' := ⟨h.size, fun k o hk _ => (h.block k (Array.getElem?_eq_some_iff.1 hk).1).trans hk⟩
theorem KeepsOthers.of_row {α : Type} {d : Kd α} {e : Nat} {w w' : World} {base : Nat} {ok : Nat → Prop} {v : Value} {xs : List α} (hr : d.R e w base ok v xs) (hg : w.grownBy w' v.ownBlock) : KeepsOthers w w' :=
  KeepsOthers.of_grownBy hg (fun j o e_ ho => by
    obtain ⟨cells, hc⟩ := blk_own hr j e_
    rw [hc] at ho
    cases ho
    rfl)
theorem out_len (l : List Int) (s : Nat) : ∀ is : List Nat, (out l s is).length ≤ is.length
  | [] => Nat.le_refl _
  | i :: is => by
    have := out_len l s is
    unfold out at this ⊢
    rw [List.flatMap_cons, List.length_append, List.length_cons]
    split
    · simp only [List.length_singleton]; omega
    · simp only [List.length_nil]; omega
theorem no9 : ∀ q ∈ (3 : Nat) :: (Kd.int .i64).E, q ≠ (9 : Nat) := by intro q hq; rcases List.mem_cons.1 hq with rfl | hq; decide; cases hq
theorem no39a : ∀ q ∈ (3 : Nat) :: (Kd.int .i64).E, q ≠ (39 : Nat) := by intro q hq; rcases List.mem_cons.1 hq with rfl | hq; decide; cases hq
theorem no39b : ∀ q ∈ (9 : Nat) :: Kd.string.E, q ≠ (39 : Nat) := by intro q hq; rcases List.mem_cons.1 hq with rfl | hq; decide; cases hq
/-- What a round that appends leaves. -/
theorem after_ (B o s : Nat) (cv v : Value) (l : List Int) (W w5 w7 : World) (v7 : Value) (xs : List ByteArray) (t : ByteArray) (w0 : World) (h5 : Below W.heap.size W w5) (hv : Boxed W o 39 v) (hv1 : Boxed W (o + 1) 22 cv) (hv2 : Boxed W (o + 1 + 1) 3 (.int .i64 (s : Int))) (hr : Kd.R Kd.string 9 W B (fun _ => True) v xs) (hR2 : Kd.R (Kd.int .i64) 3 W B (fun _ => True) cv l)
    (h7 : Kd.R Kd.string 9 w7 B (fun _ => True) v7 (xs ++ [t])) (hg : (w5.alloc (.cells #[.string t] 9)).grownBy w7 v.ownBlock) (hB : Below B w0 W) (hB0 : B ≤ W.heap.size) (hBo : B ≤ o) :
    KeepsOthers W (w7.setCell ⟨o, 0, none⟩ v7) ∧ Kept2 (o + 1) (o + 1 + 1) W (w7.setCell ⟨o, 0, none⟩ v7) ∧ Fr B o s cv l (w7.setCell ⟨o, 0, none⟩ v7) (xs ++ [t]) ∧ Below B w0 (w7.setCell ⟨o, 0, none⟩ v7) := by
  have bx : ∀ {b : Nat} {ty : TypeId} {u : Value}, Boxed W b ty u → Boxed (w5.alloc (.cells #[.string t] 9)) b ty u := fun h => Boxed.alloc (show w5.heap[_]? = _ from (h5.block _ h.lt).trans h) _
  have hr5 : Kd.R Kd.string 9 (w5.alloc (.cells #[.string t] 9)) B (fun _ => True) v xs := Kd.R_alloc (Kd.R_below hr h5) _
  have hR5 : Kd.R (Kd.int .i64) 3 (w5.alloc (.cells #[.string t] 9)) B (fun _ => True) cv l := Kd.R_alloc (Kd.R_below hR2 h5) _
  have b7 := Boxed.overRow (bx hv) hr5 hg (by decide)
  have b71 := Boxed.overRow (bx hv1) hr5 hg (by decide)
  have b72 := Boxed.overRow (bx hv2) hr5 hg (by decide)
  have s1 : Boxed (w7.setCell ⟨o, 0, none⟩ v7) (o + 1) 22 cv := Boxed.other b71 (by omega) v7
  have s2 : Boxed (w7.setCell ⟨o, 0, none⟩ v7) (o + 1 + 1) 3 (.int .i64 (s : Int)) := Boxed.other b72 (by omega) v7
  refine ⟨?_, ⟨(show (w7.setCell ⟨o, 0, none⟩ v7).heap[o + 1]? = _ from s1).trans (show W.heap[o + 1]? = _ from hv1).symm, (show (w7.setCell ⟨o, 0, none⟩ v7).heap[o + 1 + 1]? = _ from s2).trans (show W.heap[o + 1 + 1]? = _ from hv2).symm⟩, ⟨v7, Boxed.set v7 b7, s1, s2, R_setBox h7 b7 no39b, R_setBox (R_overRow hR5 hr5 hg no9) b7 no39a⟩, ?_⟩
  · exact (((KeepsOthers.of_below h5).trans (KeepsOthers.alloc _ _)).trans (KeepsOthers.of_row hr5 hg)).trans (KeepsOthers.setCell _ _ _)
  · have hb5 : Below B w0 (w5.alloc (.cells #[.string t] 9)) := (hB.trans (h5.mono hB0)).alloc (Nat.le_trans hB0 h5.size) _
    refine (hb5.grown hg (Nat.le_trans hB0 (Nat.le_trans h5.size (by rw [World.size_alloc]; exact Nat.le_succ _))) (fun k hk => ?_)).setCell (p := ⟨o, 0, none⟩) hBo _
    obtain ⟨inner, ho⟩ := Kd.R_own hr5
    exact own_base ho k hk
theorem R_cap {α : Type} {d : Kd α} {e : Nat} {w : World} {base : Nat} {ok : Nat → Prop} {A : Option Addr} {n c : Nat} {xs : List α} (h : d.R e w base ok (.slice A n c) xs) : xs.length ≤ c ∧ c ≤ maxLen := by
  obtain ⟨_, inner, ⟨_, ⟨e1, e2⟩ | ⟨g, cap, cur, e1, _, _, h1, h2, _⟩⟩, _⟩ := h
  · injection e1 with _ _ e3
    omega
  · injection e1 with _ _ e3
    omega
theorem kept2_put {b1 b2 : Nat} (W : World) (r : Nat) (o2 : Obj) (h1 : b1 ≠ r) (h2 : b2 ≠ r) : Kept2 b1 b2 W (W.putObj r o2) := ⟨World.putObj_heap_other h1, World.putObj_heap_other h2⟩
theorem chunk_cells {W : World} {B : Nat} {A : Option Addr} {k i s : Nat} {l : List Int} (h : Kd.R (Kd.int .i64) 3 W B (fun _ => True) (.slice A l.length k) l) (hi : i * s < l.length) :
    ∃ g, A = some ⟨g, 0, none⟩ ∧ ∀ j, j < (chunk l s i).length → W.cell? ⟨g, i * s + j, none⟩ = some (.int .i64 ((chunk l s i).getD j 0)) := by
  obtain ⟨inner, hown⟩ := Kd.R_own h
  obtain ⟨_, ⟨_, h0⟩ | ⟨g, cap, cur, e1, _, hb, h1, h2, _⟩⟩ := hown
  · omega
  · injection e1 with e1 e2 e3
    subst e1
    refine ⟨g, rfl, fun j hj => ?_⟩
    obtain ⟨_, _, e, _, hC⟩ := Kd.R_reads h
    injection e with e1 _ _
    subst e1
    unfold chunk at hj ⊢
    rw [List.length_take, List.length_drop] at hj
    obtain ⟨ad, e, hx⟩ := Kd.at_int hC ((i * s + j : Nat) : Int) (by omega) (by omega)
    injection e with e
    subst e
    rw [Int.toNat_natCast, add_plain] at hx
    rw [hx]
    show some (Value.int .i64 (l.getD ((i * s + j : Nat) : Int).toNat 0)) = _
    rw [Int.toNat_natCast, List.getD_eq_getElem?_getD, List.getD_eq_getElem?_getD, List.getElem?_take_of_lt (by omega), List.getElem?_drop]
theorem meas_ {j n : Nat} (h : j < n) : n - ((j : Int) + 1).toNat < n - ((j : Int)).toNat := by omega
theorem wup (k : Nat) (h : k < 1000) : wrap64 ((k : Int) + 1) = ((k + 1 : Nat) : Int) := by unfold wrap64; omega
theorem wrap32 (q : Int) (h0 : 0 ≤ q) (h1 : q ≤ 1114111) : IntKind.i32.wrap q = q := by rw [IntKind.wrap_i32]; omega
theorem getD_mem (l : List Int) (j : Nat) (h : j < l.length) : l.getD j 0 ∈ l := by
  rw [List.getD_eq_getElem?_getD, List.getElem?_eq_getElem h]; exact List.getElem_mem h
theorem enc_step (l : List Int) (j : Nat) (h : j < l.length) : Lib.byteCells ((l.take j).flatMap Lib.encodeRune) ++ Lib.runeCells (l.getD j 0) = Lib.byteCells ((l.take (j + 1)).flatMap Lib.encodeRune) := by
  rw [List.take_add_one, List.flatMap_append, Lib.byteCells_append, List.getElem?_eq_getElem h]
  show _ = _ ++ Lib.byteCells ([l[j]].flatMap Lib.encodeRune)
  rw [List.getD_eq_getElem?_getD, List.getElem?_eq_getElem h, List.flatMap_singleton, Lib.byteCells_encodeRune]
  rfl
theorem one_len (q : Int) : (Lib.encodeRune q).length ≤ 4 := by
  unfold Lib.encodeRune Lib.encodeRuneZ
  rw [List.length_map]
  repeat' split
  all_goals simp
theorem all_len : ∀ l : List Int, (l.flatMap Lib.encodeRune).length ≤ 4 * l.length
  | [] => Nat.le_refl _
  | q :: t => by
    have := all_len t
    have := one_len q
    rw [List.flatMap_cons, List.length_append, List.length_cons]; omega
theorem enc_len (l : List Int) (j : Nat) (h : l.length ≤ 1000) : (Lib.byteCells ((l.take j).flatMap Lib.encodeRune)).length + 4 ≤ 140737488355328 := by
  rw [Lib.byteCells_length]
  have := all_len (l.take j)
  rw [List.length_take] at this
  omega
theorem bx_ {W wr w5 : World} {b : Nat} {ty : TypeId} {u : Value} (h1 : Below W.heap.size W wr) (h2 : Below W.heap.size wr.drew w5) (h : Boxed W b ty u) (o : Obj) : Boxed (w5.alloc o) b ty u :=
  Boxed.alloc (show w5.heap[b]? = _ from (((below_drew h1).trans h2).block b h.lt).trans h) o
theorem rx_ {α : Type} {d : Kd α} {e B : Nat} {v : Value} {xs : List α} {W wr w5 : World} (h1 : Below W.heap.size W wr) (h2 : Below W.heap.size wr.drew w5) (h : d.R e W B (fun _ => True) v xs) (o : Obj) : d.R e (w5.alloc o) B (fun _ => True) v xs :=
  Kd.R_alloc (Kd.R_below h ((below_drew h1).trans h2)) o
theorem slice_of {α : Type} {d : Kd α} {e : Nat} {w : World} {base : Nat} {ok : Nat → Prop} {v : Value} {xs : List α} (h : d.R e w base ok v xs) : ∃ a n c, v = .slice a n c := by
  obtain ⟨a, c, e⟩ := Kd.R_slice h
  exact ⟨a, _, c, e⟩
theorem app_wpIn {F : Fence} {n : Nat} {P : Program} {o : Oper} {a : Act} {W w7 : World} {K : Act → World → Prop} {Q : Exit → Act → World → Prop} {s x : Operand} {t : TypeId} {v7 : Value} (ho : o.op = .call { callee := .builtin .append, args := #[s, x], argTypes := #[t, t] })
    (hrun : (Builtin.append_ #[t, t] o.type #[a.eval s, a.eval x]).run P W = .ok v7 w7) (hK : K (a.put o.dst v7) w7) : Oper.wpIn F n P o a W K Q := by
  unfold Oper.wpIn
  refine ⟨?_, ?_⟩
  · simp [Oper.about, ho, resolve, Target.leads, Sem.run_pure]
  · rw [Oper.semAt_plain F _ _ (by rw [ho]; intro c hc'; cases hc')]
    simp [execOp, ho, resolve, invoke, builtin, hrun, Result.andThen]
    exact hK
section
variable (T : World → Prop) (hTb : ∀ W W', T W → Below W.heap.size W W' → T W')
  (D : ByteArray → Option (List Int × Int)) (hD : ∀ a0 r1 r2 w, T w → D a0 = some (r1, r2) → Calls Tryd.prog 16 #[.string a0] w fun e w' => ∃ v0_ : Value, e = .returned (.tuple #[v0_, .int .i64 r2]) ∧ Kd.R (Kd.int .i64) 3 w' w.heap.size (fun _ => True) v0_ r1 ∧ Below w.heap.size w w')
include hD
set_option maxRecDepth 1000000 in
set_option maxHeartbeats 4000000 in
theorem good (a0 : ByteArray) (s : Nat) (w : World) (hT : T w) (h1 : ¬ (a0.size : Int) > 65536) (l : List Int) (hd : D a0 = some (l, 0)) (hs0 : 10 ≤ s) (hs1 : s ≤ 1000) (hl : l.length ≤ 65536) (hch : ∀ x ∈ l, 0 ≤ x ∧ x ≤ 1114111) :
    Calls Tryd.prog 46 #[.string a0, .int .i64 (s : Int)] w fun e w' => ∃ v0_ : Value, e = .returned (.tuple #[v0_, .int .i64 0]) ∧ Kd.R Kd.string 9 w' w.heap.size (fun _ => True) v0_ (out l s (List.range (nch l.length s))) ∧ Below w.heap.size w w' := by
  have hcd := hD a0 l 0 w hT hd
  have d1 : decide ((65536 : Int) < (a0.size : Int)) = false := decide_eq_false h1
  have d1b : decide (65536 < a0.size) = false := decide_eq_false (by omega)
  have d1c : (65536 < a0.size) = False := eq_false (by omega)
  have d2 : decide ((s : Int) < 10) = false := decide_eq_false (by omega)
  have d2b : decide (s < 10) = false := decide_eq_false (by omega)
  have d3 : decide ((1000 : Int) < (s : Int)) = false := decide_eq_false (by omega)
  have d3b : decide (1000 < s) = false := decide_eq_false (by omega)
  have d3c : (1000 < s) = False := eq_false (by omega)
  refine (callsIn_wide (n := 3)).1 ?_
  refine callsIn_of_wp_marks Tryd.func46 rfl trivial ?_ rfl
  simp only [Tryd.ntmps46, List.size_toArray, List.length_cons, List.length_nil, Nat.reduceAdd, Nat.reduceSub, Array.replicate_succ, Array.replicate_zero, List.push_toArray, List.append_toArray, List.nil_append, List.cons_append]
  gi_wp2_with (first
    | (refine ⟨trivial, ?_⟩; gi_at_call 16; refine (callsIn_wide.2 hcd).mono ?_; rintro e w1 ⟨v0, rfl, hR, hb1⟩; obtain ⟨A1, k1, rfl⟩ := Kd.R_slice hR; have HR1 := Lib.hid hR; have HB1 := Lib.hid hb1; clear hR hb1)
    | (refine ⟨trivial, ?_⟩; gi_at_call 87; refine (callsIn_wide.2 (chunk_calls A1 l.length k1 s (by omega) _)).mono ?_; rintro e w3 ⟨rfl, rfl⟩))
  have hR1 := HR1.out
  have hA : l.length = 0 ∨ ∃ ad, A1 = some ad := by
    by_cases hz : l.length = 0
    · exact Or.inl hz
    · obtain ⟨_, _, e, _, hC⟩ := Kd.R_reads hR1
      injection e with e1 _ _
      subst e1
      obtain ⟨ad, _, e, _⟩ := Kd.C_get hC 0 0 (Int.le_refl _) (by omega)
      exact Or.inr ⟨ad, e⟩
  obtain ⟨hk1, hk2⟩ := R_cap hR1
  obtain ⟨o, ho⟩ : ∃ o, w1.heap.size = o := ⟨_, rfl⟩
  have HO1 : Below w.heap.size w (w1.alloc (.cells #[.slice none 0 0] 39)) := below_alloc HB1.out _
  have HO2 := below_alloc HO1 (.cells #[.slice A1 l.length k1] 22)
  have HO3 := below_alloc HO2 (.cells #[.int .i64 (s : Int)] 3)
  have hFr : Fr w.heap.size o s (.slice A1 l.length k1) l (((w1.alloc (.cells #[.slice none 0 0] 39)).alloc (.cells #[.slice A1 l.length k1] 22)).alloc (.cells #[.int .i64 (s : Int)] 3)) (out l s []) := by
    subst ho
    have e1 : Boxed (((w1.alloc (.cells #[.slice none 0 0] 39)).alloc (.cells #[.slice A1 l.length k1] 22)).alloc (.cells #[.int .i64 (s : Int)] 3)) (w1.heap.size + 1) 22 (.slice A1 l.length k1) := by
      have h := (Boxed.new (w1.alloc (.cells #[.slice none 0 0] 39)) 22 (.slice A1 l.length k1)).alloc (.cells #[.int .i64 (s : Int)] 3)
      rw [World.size_alloc] at h
      exact h
    have e2 : Boxed (((w1.alloc (.cells #[.slice none 0 0] 39)).alloc (.cells #[.slice A1 l.length k1] 22)).alloc (.cells #[.int .i64 (s : Int)] 3)) (w1.heap.size + 1 + 1) 3 (.int .i64 (s : Int)) := by
      have h := Boxed.new ((w1.alloc (.cells #[.slice none 0 0] 39)).alloc (.cells #[.slice A1 l.length k1] 22)) 3 (.int .i64 (s : Int))
      rw [World.size_alloc, World.size_alloc] at h
      exact h
    exact ⟨_, ((Boxed.new w1 39 (.slice none 0 0)).alloc _).alloc _, e1, e2, Kd.R_nil _ _ _ _ _, Kd.R_alloc (Kd.R_alloc (Kd.R_alloc hR1 _) _) _⟩
  have hbx : Bxo (o + 1) (o + 1 + 1) A1 l.length k1 s (((w1.alloc (.cells #[.slice none 0 0] 39)).alloc (.cells #[.slice A1 l.length k1] 22)).alloc (.cells #[.int .i64 (s : Int)] 3)) := by
    subst ho
    constructor
    · have h := ((Boxed.new (w1.alloc (.cells #[.slice none 0 0] 39)) 22 (.slice A1 l.length k1)).alloc (.cells #[.int .i64 (s : Int)] 3)).cell
      rw [World.size_alloc] at h
      exact h
    · have h := (Boxed.new ((w1.alloc (.cells #[.slice none 0 0] 39)).alloc (.cells #[.slice A1 l.length k1] 22)) 3 (.int .i64 (s : Int))).cell
      rw [World.size_alloc, World.size_alloc] at h
      exact h
  have hsz : (((w1.alloc (.cells #[.slice none 0 0] 39)).alloc (.cells #[.slice A1 l.length k1] 22)).alloc (.cells #[.int .i64 (s : Int)] 3)).heap.size = o + 1 + 1 + 1 := by
    rw [World.size_alloc, World.size_alloc, World.size_alloc, ho]
  have hwo : w.heap.size ≤ o := by rw [← ho]; exact HB1.out.size
  rw [ho]
  generalize ((w1.alloc (.cells #[.slice none 0 0] 39)).alloc (.cells #[.slice A1 l.length k1] 22)).alloc (.cells #[.int .i64 (s : Int)] 3) = w3 at hFr hbx hsz HO3 ⊢
  clear HO1 HO2 HB1 HR1 hR1 hcd d1 d1b d1c d2 d2b d3 d3b d3c
  refine wpIn_rangeFunc_ownF rfl (by decide) (gf := 112) (lb := #[.pointer (some ⟨o + 1, 0, none⟩), .pointer (some ⟨o + 1 + 1, 0, none⟩)]) rfl trivial (enters_of Tryd.func112 (by kernel_rfl) rfl)
    (stops Fence.wide 2 trivial rfl (by decide) (o + 1) (o + 1 + 1) A1 l.length k1 s hA (by omega) hs1 (by omega) hk1 hk2 w3 (by omega) (by omega) hbx) (fun h k => ⟨k.1.trans h.1, k.2.trans h.2⟩) (fun W r o1 o2 hr _ _ _ => kept2_put W r o2 (by omega) (by omega)) (Below.refl _ _) (fun _ => rfl)
    (fun pre W => Fr w.heap.size o s (.slice A1 l.length k1) l W (out l s (pre.map Subtype.val)) ∧ Below w.heap.size w W)
    (fun _ _ _ => False)
    (OwnFrom.and (Own.from (Fr_own w.heap.size o (.slice A1 l.length k1) l s l.length) _) (ownFrom_below (Nat.le_refl _) (by omega)))
    (fun _ _ _ _ _ hs _ _ => hs)
    ⟨hFr, HO3⟩
    (fun x => { tmps := #[Value.string a0, Value.int IntKind.i64 (s : Int), undef, undef, Value.slice none 0 0, Value.int IntKind.i64 0,
          Value.slice A1 l.length k1, Value.int IntKind.i64 0, Value.pointer (some { block := o, off := 0 }),
          .slice (some ((adOf A1).add (x.1 * s))) (clen l.length s x.1) (clen l.length s x.1), undef, undef, undef, Value.string a0, Value.int IntKind.i64 (a0.size : Int), Value.bool false,
          Value.tuple #[Value.slice A1 l.length k1, Value.int IntKind.i64 0], Value.string a0,
          Value.tuple #[Value.slice A1 l.length k1, Value.int IntKind.i64 0], Value.slice A1 l.length k1,
          Value.int IntKind.i64 0, Value.int IntKind.i64 0, Value.bool false, Value.int IntKind.i64 (s : Int),
          Value.bool false, Value.bool false, Value.int IntKind.i64 (s : Int), Value.bool false, Value.bool false,
          Value.slice A1 l.length k1, Value.int IntKind.i64 (s : Int),
          Value.func (Fn.func 112) #[]
            #[Value.pointer (some { block := o + 1, off := 0 }),
              Value.pointer (some { block := o + 1 + 1, off := 0 })],
          .slice (some ((adOf A1).add (x.1 * s))) (clen l.length s x.1) (clen l.length s x.1), undef, undef, undef, undef, undef, undef, undef, undef, undef, undef, undef, undef, undef, undef,
          undef, undef, undef], defers := [] }) ?assign ?body ?done ?stop
  case assign =>
    intro r x W K hK
    unfold cenc
    gi_wp2
    exact hK
  case body =>
    rintro r pre ⟨i, hi⟩ W ⟨⟨v, hv, hv1, hv2, hr, hR2⟩, hB⟩ hlt
    obtain ⟨g, hg, hcells⟩ := chunk_cells hR2 hi
    subst hg
    have hgA : (adOf (some ⟨g, 0, none⟩)).add (i * s) = ⟨g, i * s, none⟩ := add_plain g (i * s)
    have hml : clen l.length s i = (chunk l s i).length := by unfold clen chunk; rw [List.length_take, List.length_drop]
    have hmx : (chunk l s i).length ≤ s := by unfold chunk; rw [List.length_take]; exact Nat.min_le_left _ _
    have hchk : ∀ x ∈ chunk l s i, 0 ≤ x ∧ x ≤ 1114111 := fun x hx => hch x (List.mem_of_mem_drop (List.mem_of_mem_take hx))
    have hout : out l s ((pre ++ [(⟨i, hi⟩ : Ch l.length s)]).map Subtype.val) = out l s (pre.map Subtype.val) ++ (if (chunk l s i).contains 91 = true then [enc (chunk l s i)] else []) := by
      unfold out; rw [List.map_append, List.flatMap_append]; simp
    dsimp only
    rw [hgA, hml]
    have hcn := Tryd.slices_Contains_int g (i * s) (chunk l s i).length (chunk l s i).length (chunk l s i) 91 W (Nat.le_refl _) (by omega) hcells
    rw [List.take_length] at hcn
    by_cases hc91 : (chunk l s i).contains 91 = true
    · rw [hc91] at hcn
      rw [if_pos hc91] at hout
      have hxl : (out l s (pre.map Subtype.val)).length ≤ 100000 := Nat.le_trans (out_len l s _) (by rw [List.length_map]; exact Nat.le_trans (Nat.le_of_lt hlt) (Nat.le_trans hl (by decide)))
      generalize hxs : out l s (pre.map Subtype.val) = xs at hr hout hxl
      clear hxs
      have hgW : g < W.heap.size := by
        obtain ⟨inner, ho_⟩ := Kd.R_own hR2
        exact own_lt ho_ g rfl
      have hBl0 : Lib.IsBuilder 104 5 W.heap.size W.heap.size (Lib.byteCells (((chunk l s i).take 0).flatMap Lib.encodeRune)) (W.alloc (.cells #[.pointer none, .slice none 0 0] 104)) :=
        Or.inl ⟨Nat.le_refl _, .slice none 0 0, blk_new W _, own_nil _ _ _ _, by simp [Value.ownBlock]⟩
      have HIN := Lib.hid (And.intro hr hR2)
      have HOUT := Lib.hid hout
      have HB := Lib.hid hB
      clear hout hr hR2 hB hml hc91
      generalize hce : chunk l s i = ch at hcells hmx hchk hcn hBl0 HOUT ⊢
      clear hce
      have HC := Lib.hid hcells
      have HCH := Lib.hid hchk
      have HBl0 := Lib.hid hBl0
      have hB0 : Below W.heap.size W (W.alloc (.cells #[.pointer none, .slice none 0 0] 104)) := below_alloc (Below.refl _ _) _
      have HB0 := Lib.hid hB0
      clear hcells hchk hBl0 hB0
      gi_wp2_with (first
        | (refine ⟨trivial, ?_⟩; gi_at_call 88; refine (CallsIn.inRound r (callsIn_wide.2 hcn)).mono ?_; rintro e w4 ⟨rfl, rfl⟩))
      gi_loopw [37] (fun i_ wr => ∃ j : Nat, j ≤ ch.length ∧ i_ = .int .i64 j ∧ Hid (Lib.IsBuilder 104 5 w4.heap.size w4.heap.size (Lib.byteCells ((ch.take j).flatMap Lib.encodeRune)) wr) ∧ Hid (Below w4.heap.size w4 wr)) (fun i_ _ => ch.length - (intOf i_).toNat)
      case atStart => exact ⟨0, Nat.zero_le _, rfl, HBl0, HB0⟩
      case round =>
        obtain ⟨j, hj, rfl, HIS, HBW⟩ := hrel
        by_cases hlt2 : j < ch.length
        · have hcell : wr.cell? ⟨g, i * s + j, none⟩ = some (.int .i64 (ch.getD j 0)) := (HBW.out.cell (p := ⟨g, i * s + j, none⟩) hgW).trans (HC.out j hlt2)
          have hrng := HCH.out (ch.getD j 0) (getD_mem ch j hlt2)
          have henc := Lib.hid (enc_step ch j hlt2)
          have hlen := enc_len ch j (Nat.le_trans hmx hs1)
          generalize ch.getD j 0 = q at hcell hrng henc
          have hw32 := wrap32 q hrng.1 hrng.2
          have hw1 := wup j (Nat.lt_of_lt_of_le hlt2 (Nat.le_trans hmx hs1))
          have hw2 : IntKind.i64.wrap ((j : Int) + 1) = ((j + 1 : Nat) : Int) := (i64_w _).trans hw1
          have hwr := write_rune w4.heap.size w4.heap.size _ q hrng.1 (by omega) wr HIS.out hlen HBW.out.size
          have HJ := Lib.hid hlt2
          gi_wp2_with (first
            | (refine ⟨trivial, ?_⟩; gi_at_call 89; refine (CallsIn.inRound r (callsIn_wide.2 hwr)).mono ?_; rintro e w6 ⟨⟨v6, rfl⟩, hb6, hb7⟩; have HIS6 := Lib.hid hb6; have HB6 := Lib.hid (HBW.out.trans hb7); clear hb6 hb7))
          have HEN := Lib.hid (henc.out ▸ HIS6.out)
          exact ⟨⟨j + 1, HJ.out, rfl, HEN, HB6⟩, by simp only [intOf]; exact meas_ HJ.out⟩
        · obtain rfl : j = ch.length := Nat.le_antisymm hj (Nat.le_of_not_lt hlt2)
          have p3 : decide ((ch.length : Int) < (ch.length : Int)) = false := decide_eq_false (Int.lt_irrefl _)
          have hts : ch.take ch.length = ch := List.take_length
          rw [hts] at HIS
          have hst := Tryd.Builder_String_any w4.heap.size w4.heap.size (ch.flatMap Lib.encodeRune) wr.drew HIS.out HBW.out.size
          have hmo : Tryd.prog.follows .mixedOrders = true := by kernel_rfl
          have hvr : Boxed wr.drew o 39 v := (HBW.out.block _ hv.lt).trans hv
          have hc0 := hvr.cell
          have hf0 := hvr.frozen
          have happ : ∀ w5, Below w4.heap.size wr.drew w5 → _ := fun w5 h5 => app_run w5 w.heap.size v _ ⟨(ch.flatMap Lib.encodeRune).toArray⟩ (Kd.R_below HIN.out.1 ((below_drew HBW.out).trans h5)) hxl (Nat.le_trans HB.out.size ((below_drew HBW.out).trans h5).size)
          clear hts hlt2 hj HIS HBl0 HB0 hcn
          gi_wp2
          refine wpIn_region_any (by assumption) ?_
          change wpAnyIn _ _ _ _ _ _ _ _ _ (World.drew _)
          refine wpAnyIn_ready (rs := [0, 1]) (by kernel_rfl) (by simp) ?_
          refine AllReadyIn.cons rfl (fun K hK => ?_) (AllReadyIn.cons rfl (fun K hK => ?_) AllReadyIn.nil)
          · go_simp
            refine hK _ _ ?_
            clear hK K
            refine wpAnyIn_ready (rs := [1]) (by kernel_rfl) (by simp) ?_
            refine AllReadyIn.cons rfl (fun K hK => ?_) AllReadyIn.nil
            go_simp
            refine ⟨trivial, ?_⟩
            refine (CallsIn.inRound r (callsIn_wide.2 hst)).mono ?_
            rintro e w5 ⟨rfl, hb5⟩
            obtain ⟨v7, w7, hrun7, hr7, hg7⟩ := happ w5 hb5
            obtain ⟨a7, n7, c7, rfl⟩ := slice_of hr7
            refine hK _ _ ?_
            clear hK K
            refine wpAnyIn_ready (rs := [2]) (by kernel_rfl) (by simp) ?_
            refine AllReadyIn.cons rfl (fun K hK => ?_) AllReadyIn.nil
            go_simp
            refine hK _ _ ?_
            clear hK K
            refine wpAnyIn_ready (rs := [3]) (by kernel_rfl) (by simp) ?_
            refine AllReadyIn.cons rfl (fun K hK => ?_) AllReadyIn.nil
            rw [if_pos (by kernel_rfl)]
            refine app_wpIn rfl hrun7 (hK _ _ ?_)
            clear hK K
            refine wpAnyIn_ready (rs := [4]) (by kernel_rfl) (by simp) ?_
            refine AllReadyIn.cons rfl (fun K hK => ?_) AllReadyIn.nil
            have hc7 : w7.cell? ⟨o, 0, none⟩ = some v := (Boxed.overRow (bx_ (HBW.out) hb5 hv _) (rx_ HBW.out hb5 HIN.out.1 _) hg7 (by decide)).cell
            have hf7 : w7.frozen? ⟨o, 0, none⟩ = false := (Boxed.overRow (bx_ (HBW.out) hb5 hv _) (rx_ HBW.out hb5 HIN.out.1 _) hg7 (by decide)).frozen
            go_simp
            refine hK _ _ ?_
            clear hK K
            refine wpAnyIn_done (by kernel_rfl) ?_ _
            have HA := after_ w.heap.size o s _ v l w4 w5 w7 _ xs _ w (((below_drew HBW.out).trans hb5)) hv hv1 hv2 HIN.out.1 HIN.out.2 hr7 hg7 HB.out HB.out.size hwo
            exact ⟨HA.1, HA.2.1, by dsimp only; rw [HOUT.out]; exact ⟨HA.2.2.1, HA.2.2.2⟩⟩
          · go_simp
            refine ⟨trivial, ?_⟩
            refine (CallsIn.inRound r (callsIn_wide.2 hst)).mono ?_
            rintro e w5 ⟨rfl, hb5⟩
            obtain ⟨v7, w7, hrun7, hr7, hg7⟩ := happ w5 hb5
            obtain ⟨a7, n7, c7, rfl⟩ := slice_of hr7
            have hc5 : w5.cell? ⟨o, 0, none⟩ = some v := (show Boxed w5 o 39 v from (((below_drew HBW.out).trans hb5).block o hv.lt).trans hv).cell
            have hc6 := (bx_ HBW.out hb5 hv (.cells #[.string ⟨(ch.flatMap Lib.encodeRune).toArray⟩] 9)).cell
            refine hK _ _ ?_
            clear hK K
            refine wpAnyIn_ready (rs := [0, 2]) (by kernel_rfl) (by simp) ?_
            refine AllReadyIn.cons rfl (fun K hK => ?_) (AllReadyIn.cons rfl (fun K hK => ?_) AllReadyIn.nil)
            · go_simp
              refine hK _ _ ?_
              clear hK K
              refine wpAnyIn_ready (rs := [2]) (by kernel_rfl) (by simp) ?_
              refine AllReadyIn.cons rfl (fun K hK => ?_) AllReadyIn.nil
              go_simp
              refine hK _ _ ?_
              clear hK K
              refine wpAnyIn_ready (rs := [3]) (by kernel_rfl) (by simp) ?_
              refine AllReadyIn.cons rfl (fun K hK => ?_) AllReadyIn.nil
              rw [if_pos (by kernel_rfl)]
              refine app_wpIn rfl hrun7 (hK _ _ ?_)
              clear hK K
              refine wpAnyIn_ready (rs := [4]) (by kernel_rfl) (by simp) ?_
              refine AllReadyIn.cons rfl (fun K hK => ?_) AllReadyIn.nil
              have hc7 : w7.cell? ⟨o, 0, none⟩ = some v := (Boxed.overRow (bx_ (HBW.out) hb5 hv _) (rx_ HBW.out hb5 HIN.out.1 _) hg7 (by decide)).cell
              have hf7 : w7.frozen? ⟨o, 0, none⟩ = false := (Boxed.overRow (bx_ (HBW.out) hb5 hv _) (rx_ HBW.out hb5 HIN.out.1 _) hg7 (by decide)).frozen
              go_simp
              refine hK _ _ ?_
              clear hK K
              refine wpAnyIn_done (by kernel_rfl) ?_ _
              have HA := after_ w.heap.size o s _ v l w4 w5 w7 _ xs _ w (((below_drew HBW.out).trans hb5)) hv hv1 hv2 HIN.out.1 HIN.out.2 hr7 hg7 HB.out HB.out.size hwo
              exact ⟨HA.1, HA.2.1, by dsimp only; rw [HOUT.out]; exact ⟨HA.2.2.1, HA.2.2.2⟩⟩
            · go_simp
              refine hK _ _ ?_
              clear hK K
              refine wpAnyIn_ready (rs := [0]) (by kernel_rfl) (by simp) ?_
              refine AllReadyIn.cons rfl (fun K hK => ?_) AllReadyIn.nil
              go_simp
              refine hK _ _ ?_
              clear hK K
              refine wpAnyIn_ready (rs := [3]) (by kernel_rfl) (by simp) ?_
              refine AllReadyIn.cons rfl (fun K hK => ?_) AllReadyIn.nil
              rw [if_pos (by kernel_rfl)]
              refine app_wpIn rfl hrun7 (hK _ _ ?_)
              clear hK K
              refine wpAnyIn_ready (rs := [4]) (by kernel_rfl) (by simp) ?_
              refine AllReadyIn.cons rfl (fun K hK => ?_) AllReadyIn.nil
              have hc7 : w7.cell? ⟨o, 0, none⟩ = some v := (Boxed.overRow (bx_ (HBW.out) hb5 hv _) (rx_ HBW.out hb5 HIN.out.1 _) hg7 (by decide)).cell
              have hf7 : w7.frozen? ⟨o, 0, none⟩ = false := (Boxed.overRow (bx_ (HBW.out) hb5 hv _) (rx_ HBW.out hb5 HIN.out.1 _) hg7 (by decide)).frozen
              go_simp
              refine hK _ _ ?_
              clear hK K
              refine wpAnyIn_done (by kernel_rfl) ?_ _
              have HA := after_ w.heap.size o s _ v l w4 w5 w7 _ xs _ w (((below_drew HBW.out).trans hb5)) hv hv1 hv2 HIN.out.1 HIN.out.2 hr7 hg7 HB.out HB.out.size hwo
              exact ⟨HA.1, HA.2.1, by dsimp only; rw [HOUT.out]; exact ⟨HA.2.2.1, HA.2.2.2⟩⟩
    · have hcf : (chunk l s i).contains 91 = false := Bool.eq_false_iff.2 hc91
      rw [hcf] at hcn
      rw [if_neg hc91, List.append_nil] at hout
      generalize chunk l s i = ch at *
      gi_wp2_with (first
        | (refine ⟨trivial, ?_⟩; gi_at_call 88; refine (CallsIn.inRound r (callsIn_wide.2 hcn)).mono ?_; rintro e w4 ⟨rfl, rfl⟩))
      exact ⟨KeepsOthers.refl _, ⟨rfl, rfl⟩, by dsimp only; rw [hout]; exact ⟨⟨v, hv, hv1, hv2, hr, hR2⟩, hB⟩⟩
  case done =>
    rintro Dd ys W hDd hys ⟨⟨v, hv, _, _, hr, _⟩, hB⟩ hK
    have hc := hv.cell
    gi_wp2
    refine ⟨by simp, .inl ⟨_, _, rfl, run_takeDeferred hK, ?_⟩⟩
    rw [hys] at hr
    refine ⟨_, results_tmp2 rfl _ _ _, v, rfl, R_own_ hr (grownBy_putObj' W Dd (.deferred none)) (fun r e => by cases e; exact ⟨_, hK, rfl⟩), ?_⟩
    exact hB.grown (grownBy_putObj' W Dd (.deferred none)) (Nat.le_trans (Nat.le_refl _) hB.size) (fun k e => by cases e; omega)
  case stop =>
    rintro Dd c pre W _ _ h _
    exact h.elim
omit hD in
set_option maxRecDepth 1000000 in
theorem long (a0 : ByteArray) (a1 : Int) (w : World) (h1 : (a0.size : Int) > 65536) :
    Calls Tryd.prog 46 #[.string a0, .int .i64 a1] w fun e w' => ∃ v0_ : Value, e = .returned (.tuple #[v0_, .int .i64 2]) ∧ Kd.R Kd.string 9 w' w.heap.size (fun _ => True) v0_ [] ∧ Below w.heap.size w w' := by
  have d1 : decide ((65536 : Int) < (a0.size : Int)) = true := decide_eq_true h1
  have d1b : decide (65536 < a0.size) = true := decide_eq_true (by omega)
  have d1c : (65536 < a0.size) = True := eq_true (by omega)
  clear h1
  go_enter Tryd.func46, Tryd.ntmps46
  go_wp2
  go_ret2
  exact ⟨_, rfl, Kd.R_nil _ _ _ _ _, Below.refl _ _⟩
set_option maxRecDepth 1000000 in
theorem bad (a0 : ByteArray) (a1 : Int) (w : World) (hT : T w) (h1 : ¬ (a0.size : Int) > 65536) (l : List Int) (c : Int) (hd : D a0 = some (l, c)) (hc : c ≠ 0) :
    Calls Tryd.prog 46 #[.string a0, .int .i64 a1] w fun e w' => ∃ v0_ : Value, e = .returned (.tuple #[v0_, .int .i64 3]) ∧ Kd.R Kd.string 9 w' w.heap.size (fun _ => True) v0_ [] ∧ Below w.heap.size w w' := by
  have hcd := hD a0 l c w hT hd
  have d1 : decide ((65536 : Int) < (a0.size : Int)) = false := decide_eq_false h1
  have d1b : decide (65536 < a0.size) = false := decide_eq_false (by omega)
  have d1c : (65536 < a0.size) = False := eq_false (by omega)
  have d2 : (c != 0) = true := bne_iff_ne.2 hc
  clear h1 hc
  go_enter Tryd.func46, Tryd.ntmps46
  go_wp2_with (first
    | (go_at_call 16; refine hcd.mono ?_; rintro e w1 ⟨v0, rfl, _, hb1⟩; have HB1 := Lib.hid hb1; clear hb1))
  go_ret2
  exact ⟨_, rfl, Kd.R_nil _ _ _ _ _, HB1.out⟩
set_option maxRecDepth 1000000 in
theorem range (a0 : ByteArray) (a1 : Int) (w : World) (hT : T w) (h1 : ¬ (a0.size : Int) > 65536) (l : List Int) (hd : D a0 = some (l, 0)) (hx : a1 < 10 ∨ a1 > 1000) :
    Calls Tryd.prog 46 #[.string a0, .int .i64 a1] w fun e w' => ∃ v0_ : Value, e = .returned (.tuple #[v0_, .int .i64 12]) ∧ Kd.R Kd.string 9 w' w.heap.size (fun _ => True) v0_ [] ∧ Below w.heap.size w w' := by
  have hcd := hD a0 l 0 w hT hd
  have d1 : decide ((65536 : Int) < (a0.size : Int)) = false := decide_eq_false h1
  have d1b : decide (65536 < a0.size) = false := decide_eq_false (by omega)
  have d1c : (65536 < a0.size) = False := eq_false (by omega)
  clear h1
  by_cases c2 : a1 < 10
  · have d3 : decide (a1 < 10) = true := decide_eq_true c2
    clear c2 hx
    go_enter Tryd.func46, Tryd.ntmps46
    go_wp2_with (first
      | (go_at_call 16; refine hcd.mono ?_; rintro e w1 ⟨v0, rfl, _, hb1⟩; have HB1 := Lib.hid hb1; clear hb1))
    go_ret2
    exact ⟨_, rfl, Kd.R_nil _ _ _ _ _, HB1.out⟩
  · have d3 : decide (a1 < 10) = false := decide_eq_false c2
    have d4 : decide ((1000 : Int) < a1) = true := decide_eq_true (hx.resolve_left c2)
    clear c2 hx
    go_enter Tryd.func46, Tryd.ntmps46
    go_wp2_with (first
      | (go_at_call 16; refine hcd.mono ?_; rintro e w1 ⟨v0, rfl, _, hb1⟩; have HB1 := Lib.hid hb1; clear hb1))
    go_ret2
    exact ⟨_, rfl, Kd.R_nil _ _ _ _ _, HB1.out⟩
end
end
end Go.Proofs.YtcokeankiedfcaaDoor.Frag
