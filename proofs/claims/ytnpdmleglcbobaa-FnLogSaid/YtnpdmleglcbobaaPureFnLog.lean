/- FnLog: drawn records with the Seqs 1, 2, .. come back from the program's bytes, one behind the other; of a beginning of these bytes those that are whole come back. -/
import Derived.Test.YtnpdmleglcbobaaXFnLogx18
import Derived.Test.YtnpdmleglcbobaaKit
import Derived.Lib.ItoaNum
import Derived.Lib.Bytes
set_option linter.unusedSimpArgs false
set_option linter.unusedVariables false
namespace Go.Proofs.Ytnpdmleglcbobaa.Pure
open Go.RowKit Go.Proofs.Ytnpdmleglcbobaa.XFnLog Go.Proofs.YtnpdmleglcbobaaW.PrintWords Go.Proofs.YtnpdmleglcbobaaW.PrintLast Go.Proofs.YtnpdmleglcbobaaW.PrintMore Go.Proofs.Ytnpdmleglcbobaa.Kit

theorem Ev.steps {α : Type} {g f : Nat → Option α} {r : α} (c : Nat) (h : ∀ k, g (k + c) = f k) (k : Ev f r) : Ev g r := by
 obtain ⟨K, hK⟩ := k
 refine ⟨K + c, fun n hn => ?_⟩
 have := h (n - c)
 rw [Nat.sub_add_cancel (by omega)] at this
 rw [this]; exact hK _ (by omega)

theorem Ev.pos {α : Type} {c : Prop} [Decidable c] {f g : Nat → Option α} {r : α} (h : c) (k : Ev f r) : Ev (fun n => if c then f n else g n) r := Ev.congr (fun n => if_pos h) k
theorem Ev.neg {α : Type} {c : Prop} [Decidable c] {f g : Nat → Option α} {r : α} (h : ¬ c) (k : Ev g r) : Ev (fun n => if c then f n else g n) r := Ev.congr (fun n => if_neg h) k
theorem Ev.ofEq {α : Type} {x : Option α} {r : α} (h : x = some r) : Ev (fun _ => x) r := ⟨0, fun _ _ => h⟩
theorem Ev.from {α : Type} {g : Nat → Option α} {r : α} (K : Nat) (h : ∀ k, K < k → g k = some r) : Ev g r := ⟨K + 1, fun k hk => h k (by omega)⟩

mutual
def F32.l0 : Nat → List Int → Int → Int → Int → Int → Option (Int × Int × Bool)
 | 0, _, _, _, _, _ => none
 | k + 1, x0, x1, x7, x8, x9 => if x9 < 9 then (F32.j1 k x0 x1 x7 x8 x9 (decide ((wrap64 (x1 + x9)) < (x0.length : Int)))) else (F32.j1 k x0 x1 x7 x8 x9 false)
def F32.j1 : Nat → List Int → Int → Int → Int → Int → Bool → Option (Int × Int × Bool)
 | 0, _, _, _, _, _, _ => none
 | k + 1, x0, x1, x7, x8, x9, x20 => if x20 = true then (if 0 ≤ (wrap64 (x1 + x9)) then (if (wrap64 (x1 + x9)) < (x0.length : Int) then (if x9 = 8 then (F32.j2 k x0 x1 x7 x8 x9 (wrap64 (rd x0 (wrap64 (x1 + x9)))) (decide ((wrap64 (rd x0 (wrap64 (x1 + x9)))) > 63))) else (F32.j2 k x0 x1 x7 x8 x9 (wrap64 (rd x0 (wrap64 (x1 + x9)))) false)) else (none)) else (none)) else (some (0, 0, false))
def F32.j2 : Nat → List Int → Int → Int → Int → Int → Int → Bool → Option (Int × Int × Bool)
 | 0, _, _, _, _, _, _, _ => none
 | k + 1, x0, x1, x7, x8, x9, x10, x35 => if x35 = true then (some (0, 0, false)) else (if x10 < 128 then (if x9 = 0 then (some (wrap64 (x7 + (wrap64 ((Int.tmod x10 128) * x8))), wrap64 ((wrap64 (x1 + x9)) + 1), true)) else (some (wrap64 (x7 + (wrap64 ((Int.tmod x10 128) * x8))), wrap64 ((wrap64 (x1 + x9)) + 1), decide (x10 > 0)))) else (if x9 < 8 then (F32.l0 k x0 x1 (wrap64 (x7 + (wrap64 ((Int.tmod x10 128) * x8)))) (wrap64 (x8 * 128)) (wrap64 (x9 + 1))) else (F32.l0 k x0 x1 (wrap64 (x7 + (wrap64 ((Int.tmod x10 128) * x8)))) x8 (wrap64 (x9 + 1)))))
end
def F32.f (k : Nat) (l0 : List Int) (a1 : Int) : Option (Int × Int × Bool) := F32.l0 k l0 a1 0 1 0
theorem wnD (i : Nat) (h : i ≤ 281474976710656) : wrap64 ((i : Int) + 1) = ((i + 1 : Nat) : Int) := by rw [w64 (by omega) (by omega)]; omega
theorem n0 : ((0 : Nat) : Int) = 0 := rfl
theorem rdS_at (xs : List ByteArray) (i : Nat) (h : i < xs.length) : rdOf ByteArray.empty xs (i : Int) = xs[i] := by
 rw [rdOf, Int.toNat_natCast, List.getD_eq_getElem?_getD, List.getElem?_eq_getElem h]; rfl
theorem rd66_at (xs : List S66) (i : Nat) (h : i < xs.length) : rd_T66 xs (i : Int) = xs[i] := by
 unfold rd_T66
 rw [Int.toNat_natCast, List.getD_eq_getElem?_getD, List.getElem?_eq_getElem h]; rfl
theorem rdI_at (xs : List Int) (i : Nat) (h : i < xs.length) : rd xs (i : Int) = xs[i] := rd_lt xs i h
theorem flat_len {α : Type} (f : α → List Int) (B : Nat) (l : List α) (h : ∀ x ∈ l, (f x).length ≤ B) : (l.flatMap f).length ≤ l.length * B := by
 induction l with
 | nil => simp
 | cons a l ih =>
  have h1 := h a (List.mem_cons_self ..)
  have h2 := ih (fun x hx => h x (List.mem_cons_of_mem _ hx))
  rw [List.flatMap_cons, List.length_append, List.length_cons, Nat.add_mul]; omega
def pb (n : Int) : List Int := vb 8 n
theorem pb_len (n : Int) : 1 ≤ (pb n).length ∧ (pb n).length ≤ 9 := vb_length 8 n
theorem putS_ev (n : Int) (h0 : 0 ≤ n) (h1 : n ≤ 9000000000000000000) : Ev (fun k => F13.f k n) (pb n) :=
 ⟨9, fun k hk => put_spec F13.f (fun _ _ => rfl) 8 (by omega) k n h0 (by rw [pow128_8]; omega) (by omega)⟩
theorem putI_ev (pre : List Int) (n : Int) (hp : pre.length ≤ 140737488355000) (h0 : 0 ≤ n) (h1 : n ≤ 9000000000000000000) : Ev (fun k => F19.f k pre n) (pre ++ pb n) :=
 ⟨9, fun k hk => put_impl F19.l0 (fun _ _ _ => rfl) 8 (by omega) k pre n (by omega) h0 (by rw [pow128_8]; omega) (by omega)⟩
def tb (t : ByteArray) : List Int := pb (t.size : Int) ++ bytesOf t
theorem tb_len (t : ByteArray) : (tb t).length ≤ 9 + t.size := by
 unfold tb
 rw [List.length_append, bytesOf_length]
 have := pb_len (t.size : Int); omega
theorem putTS_ev (pre : List Int) (t : ByteArray) (h : pre.length + t.size ≤ 140737488355000) : Ev (fun k => F30.f k pre t) (pre ++ tb t) := by
 have hp := pb_len (t.size : Int)
 unfold F30.f
 refine Ev.bind (putS_ev _ (by omega) (by omega)) ?_
 refine Ev.pos (by omega) ?_
 simp only [Option.bind_some]
 refine Ev.pos (by rw [List.length_append]; omega) ?_
 unfold tb
 rw [List.append_assoc]
 exact Ev.now _
theorem putTI_ev (pre : List Int) (t : ByteArray) (h : pre.length + t.size ≤ 140737488354900) : Ev (fun k => F39.f k pre t) (pre ++ tb t) := by
 have hp := pb_len (t.size : Int)
 unfold F39.f
 refine Ev.bind (putI_ev pre _ (by omega) (by omega) (by omega)) ?_
 refine Ev.pos (by rw [List.length_append]; omega) ?_
 unfold tb
 rw [List.append_assoc]
 exact Ev.now _
def nv (n : Int) : Int := if n < 0 then -2 * n - 1 else 2 * n
def numOK (n : Int) : Bool := decide (-1000000000000 ≤ n ∧ n ≤ 1000000000000)
theorem nv_ok (n : Int) (h : numOK n = true) : 0 ≤ nv n ∧ nv n ≤ 2000000000000 := by
 have := of_decide_eq_true h
 unfold nv; split <;> omega
def nb (n : Int) : List Int := pb (nv n)
def txtOK (t : ByteArray) : Bool := decide (t.size ≤ 65536)
def valOK (v : S66) : Bool := decide (v.f0.size ≤ 65536 ∧ v.f1.length ≤ 4096 ∧ v.f2.length ≤ 4096) && (v.f1.all txtOK && v.f2.all numOK)
def fits (id : ByteArray) (l : List S66) : Bool := decide (id.size ≤ 65536 ∧ l.length ≤ 4096) && l.all valOK
def vbytes (v : S66) : List Int := tb v.f0 ++ (pb (v.f1.length : Int) ++ (v.f1.flatMap tb ++ (pb (v.f2.length : Int) ++ v.f2.flatMap nb)))
def dbytes (id : ByteArray) (l : List S66) : List Int := tb id ++ (pb (l.length : Int) ++ l.flatMap vbytes)
theorem valOK_parts (v : S66) (h : valOK v = true) : v.f0.size ≤ 65536 ∧ v.f1.length ≤ 4096 ∧ v.f2.length ≤ 4096 ∧ (∀ t ∈ v.f1, t.size ≤ 65536) ∧ ∀ n ∈ v.f2, numOK n = true := by
 unfold valOK at h
 rw [Bool.and_eq_true, Bool.and_eq_true] at h
 obtain ⟨h1, h2, h3⟩ := h
 obtain ⟨g1, g2, g3⟩ := of_decide_eq_true h1
 exact ⟨g1, g2, g3, fun t ht => of_decide_eq_true (List.all_eq_true.1 h2 t ht), fun n hn => List.all_eq_true.1 h3 n hn⟩
theorem vbytes_len (v : S66) (h : valOK v = true) : (vbytes v).length ≤ 300000000 := by
 obtain ⟨g1, g2, g3, g4, g5⟩ := valOK_parts v h
 have e1 := tb_len v.f0
 have e2 := pb_len (v.f1.length : Int)
 have e3 := flat_len tb 65545 v.f1 (fun t ht => by have := tb_len t; have := g4 t ht; omega)
 have e4 := pb_len (v.f2.length : Int)
 have e5 := flat_len nb 9 v.f2 (fun n _ => (pb_len _).2)
 have e6 : v.f1.length * 65545 ≤ 4096 * 65545 := Nat.mul_le_mul_right _ g2
 have e7 : v.f2.length * 9 ≤ 4096 * 9 := Nat.mul_le_mul_right _ g3
 unfold vbytes
 simp only [List.length_append]
 omega
theorem dbytes_len (id : ByteArray) (l : List S66) (h : fits id l = true) : (dbytes id l).length ≤ 2000000000000 := by
 unfold fits at h
 rw [Bool.and_eq_true] at h
 obtain ⟨h1, h2⟩ := of_decide_eq_true h.1
 have e1 := tb_len id
 have e2 := pb_len (l.length : Int)
 have e3 := flat_len vbytes 300000000 l (fun v hv => vbytes_len v (List.all_eq_true.1 h.2 v hv))
 have e4 : l.length * 300000000 ≤ 4096 * 300000000 := Nat.mul_le_mul_right _ h2
 unfold dbytes
 simp only [List.length_append]
 omega
theorem drop_at {α : Type} (l : List α) (i : Nat) (h : i < l.length) : l.drop i = l[i] :: l.drop (i + 1) := List.drop_eq_getElem_cons h
def okV (v : S66) : Prop := v.f1.length ≤ 1048576 ∧ v.f2.length ≤ 1048576
theorem valOK_f (v : S66) (h : ¬ (v.f0.size ≤ 65536 ∧ v.f1.length ≤ 4096 ∧ v.f2.length ≤ 4096)) : valOK v = false := by unfold valOK; rw [decide_eq_false h, Bool.false_and]
theorem valOK_t (v : S66) (h : v.f0.size ≤ 65536 ∧ v.f1.length ≤ 4096 ∧ v.f2.length ≤ 4096) : valOK v = (v.f1.all txtOK && v.f2.all numOK) := by unfold valOK; rw [decide_eq_true h, Bool.true_and]
theorem fits_f (id : ByteArray) (l : List S66) (h : ¬ (id.size ≤ 65536 ∧ l.length ≤ 4096)) : fits id l = false := by unfold fits; rw [decide_eq_false h, Bool.false_and]
theorem fits_t (id : ByteArray) (l : List S66) (h : id.size ≤ 65536 ∧ l.length ≤ 4096) : fits id l = l.all valOK := by unfold fits; rw [decide_eq_true h, Bool.true_and]
theorem fits2_ev (id : ByteArray) (l : List S66) (i : Nat) (v : S66) (hv : okV v) (r : Bool) (hc : Ev (fun k => F7.l0 k (wrap64 ((i : Int) + 1)) id l) r) (d : Nat) : ∀ j, j + d = v.f2.length → Ev (fun k => F7.l2 k (i : Int) (j : Int) id l v.f0 v.f1 v.f2) (if (v.f2.drop j).all numOK then r else false) := by
 obtain ⟨h1, h2⟩ := hv
 induction d with
 | zero =>
  intro j hj
  rw [List.drop_of_length_le (by omega)]
  exact Ev.step (fun k => by rw [F7.l2, if_neg (by omega)]) hc
 | succ d ih =>
  intro j hj
  rw [drop_at _ j (by omega), List.all_cons]
  refine Ev.step (fun k => by rw [F7.l2, if_pos (by omega), if_pos (by omega), rdI_at _ _ (by omega), wnD j (by omega)]) ?_
  unfold numOK
  by_cases c1 : v.f2[j] < -1000000000000
  ·rw [decide_eq_false (by omega), Bool.false_and]; exact Ev.pos c1 (Ev.now _)
  ·by_cases c2 : v.f2[j] > 1000000000000
   ·rw [decide_eq_false (by omega), Bool.false_and]; exact Ev.neg c1 (Ev.pos c2 (Ev.now _))
   ·rw [decide_eq_true (by omega), Bool.true_and]; exact Ev.neg c1 (Ev.neg c2 (ih (j + 1) (by omega)))
theorem fits1_ev (id : ByteArray) (l : List S66) (i : Nat) (v : S66) (hv : okV v) (r : Bool) (hc : Ev (fun k => F7.l0 k (wrap64 ((i : Int) + 1)) id l) r) (d : Nat) : ∀ j, j + d = v.f1.length → Ev (fun k => F7.l1 k (i : Int) (j : Int) id l v.f0 v.f1 v.f2) (if (v.f1.drop j).all txtOK && v.f2.all numOK then r else false) := by
 have h1 := hv.1
 induction d with
 | zero =>
  intro j hj
  rw [List.drop_of_length_le (by omega)]
  have h := fits2_ev id l i v hv r hc v.f2.length 0 (by omega)
  rw [List.drop_zero, n0] at h
  exact Ev.step (fun k => by rw [F7.l1, if_neg (by omega)]) h
 | succ d ih =>
  intro j hj
  rw [drop_at _ j (by omega), List.all_cons]
  refine Ev.step (fun k => by rw [F7.l1, if_pos (by omega), if_pos (by omega), rdS_at _ _ (by omega), wnD j (by omega)]) ?_
  unfold txtOK
  by_cases c : ((v.f1[j]).size : Int) > 65536
  ·rw [decide_eq_false (by omega), Bool.false_and, Bool.false_and]; exact Ev.pos c (Ev.now _)
  ·rw [decide_eq_true (by omega), Bool.true_and]; exact Ev.neg c (ih (j + 1) (by omega))
theorem fits0_ev (id : ByteArray) (l : List S66) (hn : l.length ≤ 1048576) (hl : ∀ v ∈ l, okV v) (d : Nat) : ∀ i, i + d = l.length → Ev (fun k => F7.l0 k (i : Int) id l) ((l.drop i).all valOK) := by
 induction d with
 | zero =>
  intro i hi
  rw [List.drop_of_length_le (by omega)]
  exact Ev.step (f := fun _ => some true) (fun k => by rw [F7.l0, if_neg (by omega)]) (Ev.now _)
 | succ d ih =>
  intro i hi
  have hv := hl _ (List.getElem_mem (show i < l.length by omega))
  have hc := ih (i + 1) (by omega)
  rw [← wnD i (by omega)] at hc
  rw [drop_at _ i (by omega), List.all_cons]
  refine Ev.step (fun k => by rw [F7.l0, if_pos (by omega), if_pos (by omega), rd66_at _ _ (by omega)]) ?_
  generalize l[i]'(by omega) = v at hv ⊢
  by_cases c1 : (v.f0.size : Int) > 65536
  ·rw [valOK_f v (by omega), Bool.false_and]
   exact Ev.pos c1 (Ev.step (fun k => by rw [F7.j2]) (Ev.pos rfl (Ev.now _)))
  ·refine Ev.neg c1 ?_
   by_cases c2 : (v.f1.length : Int) > 4096
   ·rw [valOK_f v (by omega), Bool.false_and]
    exact Ev.pos c2 (Ev.step (fun k => by rw [F7.j2]) (Ev.pos rfl (Ev.now _)))
   ·refine Ev.neg c2 (Ev.step (fun k => by rw [F7.j2]) ?_)
    by_cases c3 : (v.f2.length : Int) > 4096
    ·rw [valOK_f v (by omega), Bool.false_and, decide_eq_true c3]
     exact Ev.pos rfl (Ev.now _)
    ·rw [valOK_t v (by omega), decide_eq_false c3]
     refine Ev.neg Bool.false_ne_true ?_
     have h := fits1_ev id l i v hv _ hc v.f1.length 0 (by omega)
     rw [List.drop_zero, n0] at h
     cases hb : (v.f1.all txtOK && v.f2.all numOK) with
     | true => rw [hb] at h; rw [Bool.true_and]; exact h
     | false => rw [hb] at h; rw [Bool.false_and]; exact h
theorem fits_ev (id : ByteArray) (l : List S66) (hn : l.length ≤ 1048576) (hl : ∀ v ∈ l, okV v) : Ev (fun k => F7.f k id l) (fits id l) := by
 unfold F7.f
 by_cases c1 : (id.size : Int) > 65536
 ·rw [fits_f id l (by omega)]
  exact Ev.pos c1 (Ev.step (fun k => by rw [F7.j0]) (Ev.pos rfl (Ev.now _)))
 ·refine Ev.neg c1 (Ev.step (fun k => by rw [F7.j0]) ?_)
  by_cases c2 : (l.length : Int) > 4096
  ·rw [fits_f id l (by omega), decide_eq_true c2]
   exact Ev.pos rfl (Ev.now _)
  ·rw [fits_t id l (by omega), decide_eq_false c2]
   have h := fits0_ev id l hn hl l.length 0 (by omega)
   rw [List.drop_zero, n0] at h
   exact Ev.neg Bool.false_ne_true h
theorem putNS_ev (pre : List Int) (n : Int) (hn : numOK n = true) (h : pre.length ≤ 140737488355000) : Ev (fun k => F34.f k pre n) (pre ++ nb n) := by
 have hv := nv_ok n hn
 have hb := of_decide_eq_true hn
 unfold F34.f
 by_cases c : n < 0
 ·have e1 : wrap64 ((-2) * n) = -2 * n := w64 (by omega) (by omega)
  have e2 : wrap64 (-2 * n - 1) = nv n := by rw [w64 (by omega) (by omega)]; unfold nv; rw [if_pos c]
  rw [e1, e2]
  have := pb_len (nv n)
  exact Ev.pos c (Ev.bind (putS_ev _ hv.1 (by omega)) (Ev.pos (by omega) (Ev.now _)))
 ·have e2 : wrap64 (2 * n) = nv n := by rw [w64 (by omega) (by omega)]; unfold nv; rw [if_neg c]
  rw [e2]
  have := pb_len (nv n)
  exact Ev.neg c (Ev.bind (putS_ev _ hv.1 (by omega)) (Ev.pos (by omega) (Ev.now _)))
theorem by2_ev (id : ByteArray) (l : List S66) (i : Nat) (v : S66) (h2 : v.f2.length ≤ 4096) (hN : ∀ n ∈ v.f2, numOK n = true) (r : List Int) (d : Nat) : ∀ j pre, j + d = v.f2.length → pre.length + 9 * d ≤ 140737488350000 →
 Ev (fun k => F10.l0 k (pre ++ (v.f2.drop j).flatMap nb) (wrap64 ((i : Int) + 1)) id l) r → Ev (fun k => F10.l2 k pre (i : Int) (j : Int) id l v.f0 v.f1 v.f2) r := by
 induction d with
 | zero =>
  intro j pre hj hp hc
  rw [List.drop_of_length_le (by omega), List.flatMap_nil, List.append_nil] at hc
  exact Ev.step (fun k => by rw [F10.l2, if_neg (by omega)]) hc
 | succ d ih =>
  intro j pre hj hp hc
  rw [drop_at _ j (by omega), List.flatMap_cons, ← List.append_assoc] at hc
  refine Ev.step (fun k => by rw [F10.l2, if_pos (by omega), if_pos (by omega), rdI_at _ _ (by omega), wnD j (by omega)]) ?_
  have hq := (pb_len (nv (v.f2[j]'(by omega)))).2
  refine Ev.bind (putNS_ev pre _ (hN _ (List.getElem_mem _)) (by omega)) ?_
  exact ih (j + 1) _ (by omega) (by rw [List.length_append]; unfold nb; omega) hc
theorem by1_ev (id : ByteArray) (l : List S66) (i : Nat) (v : S66) (h1 : v.f1.length ≤ 4096) (h2 : v.f2.length ≤ 4096) (hT : ∀ t ∈ v.f1, t.size ≤ 65536) (hN : ∀ n ∈ v.f2, numOK n = true) (r : List Int) (d : Nat) : ∀ j pre, j + d = v.f1.length → pre.length + 65545 * d ≤ 140737488300000 →
 Ev (fun k => F10.l0 k (pre ++ ((v.f1.drop j).flatMap tb ++ (pb (v.f2.length : Int) ++ v.f2.flatMap nb))) (wrap64 ((i : Int) + 1)) id l) r → Ev (fun k => F10.l1 k pre (i : Int) (j : Int) id l v.f0 v.f1 v.f2) r := by
 induction d with
 | zero =>
  intro j pre hj hp hc
  have hq := pb_len (v.f2.length : Int)
  rw [List.drop_of_length_le (by omega), List.flatMap_nil, List.nil_append, ← List.append_assoc] at hc
  refine Ev.step (fun k => by rw [F10.l1, if_neg (by omega)]) ?_
  refine Ev.bind (putS_ev _ (by omega) (by omega)) (Ev.pos (by omega) ?_)
  exact by2_ev id l i v h2 hN r v.f2.length 0 _ (by omega) (by rw [List.length_append]; omega) (by rw [List.drop_zero]; exact hc)
 | succ d ih =>
  intro j pre hj hp hc
  rw [drop_at _ j (by omega), List.flatMap_cons, List.append_assoc, ← List.append_assoc] at hc
  refine Ev.step (fun k => by rw [F10.l1, if_pos (by omega), if_pos (by omega), rdS_at _ _ (by omega), wnD j (by omega)]) ?_
  have ht := hT _ (List.getElem_mem (show j < v.f1.length by omega))
  have hq := tb_len (v.f1[j]'(by omega))
  refine Ev.bind (putTS_ev pre _ (by omega)) ?_
  exact ih (j + 1) _ (by omega) (by rw [List.length_append]; omega) hc
theorem by0_ev (id : ByteArray) (l : List S66) (hn : l.length ≤ 4096) (hl : ∀ v ∈ l, valOK v = true) (d : Nat) : ∀ i pre, i + d = l.length → pre.length + 300000000 * d ≤ 140737480000000 → Ev (fun k => F10.l0 k pre (i : Int) id l) (pre ++ (l.drop i).flatMap vbytes) := by
 induction d with
 | zero =>
  intro i pre hi hp
  rw [List.drop_of_length_le (by omega), List.flatMap_nil, List.append_nil]
  exact Ev.step (fun k => by rw [F10.l0, if_neg (by omega)]) (Ev.now _)
 | succ d ih =>
  intro i pre hi hp
  have hv := hl _ (List.getElem_mem (show i < l.length by omega))
  rw [drop_at _ i (by omega), List.flatMap_cons]
  refine Ev.step (fun k => by rw [F10.l0, if_pos (by omega), if_pos (by omega), rd66_at _ _ (by omega)]) ?_
  generalize l[i]'(by omega) = v at hv ⊢
  have hvl := vbytes_len v hv
  obtain ⟨g1, g2, g3, g4, g5⟩ := valOK_parts v hv
  have e1 := tb_len v.f0
  have e2 := pb_len (v.f1.length : Int)
  have hc := ih (i + 1) (pre ++ vbytes v) (by omega) (by rw [List.length_append]; omega)
  rw [← wnD i (by omega)] at hc
  refine Ev.bind (putTS_ev pre _ (by omega)) ?_
  refine Ev.bind (putS_ev _ (by omega) (by omega)) ?_
  refine Ev.pos (by rw [List.length_append]; omega) ?_
  refine by1_ev id l i v g2 g3 g4 g5 _ v.f1.length 0 _ (by omega) (by simp only [List.length_append]; omega) ?_
  rw [List.drop_zero]
  have e : pre ++ tb v.f0 ++ pb (v.f1.length : Int) ++ (v.f1.flatMap tb ++ (pb (v.f2.length : Int) ++ v.f2.flatMap nb)) = pre ++ vbytes v := by unfold vbytes; simp only [List.append_assoc]
  rw [e, ← List.append_assoc]
  exact hc
theorem bytes_ev (id : ByteArray) (l : List S66) (h : fits id l = true) : Ev (fun k => F10.f k id l) (dbytes id l) := by
 unfold fits at h
 rw [Bool.and_eq_true] at h
 obtain ⟨h1, h2⟩ := of_decide_eq_true h.1
 have e1 := tb_len id
 have e2 := pb_len (l.length : Int)
 unfold F10.f
 have h0 := putTS_ev [] id (by simp; omega)
 rw [List.nil_append] at h0
 refine Ev.bind h0 ?_
 refine Ev.bind (putS_ev _ (by omega) (by omega)) ?_
 refine Ev.pos (by omega) ?_
 have hb := by0_ev id l h2 (List.all_eq_true.1 h.2) l.length 0 (tb id ++ pb (l.length : Int)) (by omega) (by rw [List.length_append]; omega)
 rw [List.drop_zero, List.append_assoc] at hb
 exact hb
def docTell (id : ByteArray) (l : List S66) : List Int × Int := if fits id l = true then (dbytes id l, 0) else ([], 12)
def tell (r : Int × Int × Bool) : Int × Int × Int := if r.2.2 = true then (r.1, r.2.1, 0) else (0, 0, 3)

theorem pw (n : Nat) (h : n ≤ 8) : 0 < (128 : Int) ^ n ∧ (128 : Int) ^ n ≤ 72057594037927936 ∧ (2 : Int) ^ (7 * n) = 128 ^ n := by
 refine ⟨Int.pow_pos (by decide), ?_, ?_⟩
 ·have h1 : (128 : Nat) ^ n ≤ 128 ^ 8 := Nat.pow_le_pow_right (by decide) h
  have e9 : (128 : Nat) ^ 8 = 72057594037927936 := by decide
  rw [e9] at h1
  have h2 := Int.ofNat_le.2 h1
  rw [Int.natCast_pow] at h2
  exact h2
 ·rw [Int.pow_mul]; rfl

theorem shl_at (c : Int) (n : Nat) (hn : n ≤ 8) (h0 : 0 ≤ c) (h1 : c ≤ 127) : shl .i64 c (7 * (n : Int)) = c * 128 ^ n := by
 obtain ⟨hp0, hp1, hp2⟩ := pw n hn
 unfold shl
 have e : min (7 * (n : Int)).toNat IntKind.i64.bits = 7 * n := by
  have : IntKind.i64.bits = 64 := rfl
  omega
 rw [e, hp2]
 have hq : c * 128 ^ n ≤ 127 * 128 ^ n := Int.mul_le_mul_of_nonneg_right h1 (by omega)
 have hq0 : 0 ≤ c * 128 ^ n := Int.mul_nonneg h0 (by omega)
 rw [IntKind.wrap_i64]; omega

theorem stepS (b : List Int) (at' n : Nat) (v c p : Int) (hl : b.length ≤ 1048576) (hin : at' + n < b.length) (hn : n ≤ 8) (hc : rd b ((at' + n : Nat) : Int) = c) (hc0 : 0 ≤ c) (hc1 : c ≤ 255)
 (hp0 : 0 < p) (hp1 : p ≤ 72057594037927936) (hv0 : 0 ≤ v) (hv1 : v < p) (k : Nat) :
 F32.l0 (k + 3) b at' v p n = if (if n = 8 then decide (c > 63) else false) = true then some (0, 0, false) else if c < 128 then (if (n : Int) = 0 then some (v + c % 128 * p, ((at' + n + 1 : Nat) : Int), true) else some (v + c % 128 * p, ((at' + n + 1 : Nat) : Int), decide (c > 0))) else (if (n : Int) < 8 then F32.l0 k b at' (v + c % 128 * p) (wrap64 (p * 128)) ((n + 1 : Nat) : Int) else F32.l0 k b at' (v + c % 128 * p) p ((n + 1 : Nat) : Int)) := by
 have hadd : wrap64 ((at' : Int) + (n : Int)) = ((at' + n : Nat) : Int) := by rw [w64 (by omega) (by omega)]; omega
 have hlt : decide (wrap64 ((at' : Int) + (n : Int)) < (b.length : Int)) = true := by rw [hadd]; exact decide_eq_true (by omega)
 have hnx : wrap64 (((at' + n : Nat) : Int) + 1) = ((at' + n + 1 : Nat) : Int) := by rw [w64 (by omega) (by omega)]; omega
 have hn1 : wrap64 ((n : Int) + 1) = ((n + 1 : Nat) : Int) := by rw [w64 (by omega) (by omega)]; omega
 have hc7 : c % 128 ≤ 127 := by omega
 have hq : c % 128 * p ≤ 127 * p := Int.mul_le_mul_of_nonneg_right hc7 (by omega)
 have hq0 : 0 ≤ c % 128 * p := Int.mul_nonneg (by omega) (by omega)
 have hsp : wrap64 (v + wrap64 ((Int.tmod c 128) * p)) = v + c % 128 * p := by
  rw [Int.tmod_eq_emod_of_nonneg hc0, w64 (x := c % 128 * p) (by omega) (by omega), w64 (by omega) (by omega)]
 rw [F32.l0, if_pos (by omega), hlt, F32.j1, if_pos rfl, hadd, if_pos (by omega), if_pos (by omega), hc, w64 (x := c) (by omega) (by omega)]
 by_cases h8 : n = 8
 ·rw [if_pos (by omega), if_pos h8, F32.j2, hadd, hsp, hnx, hn1]
 ·rw [if_neg (by omega), if_neg h8, F32.j2, hadd, hsp, hnx, hn1]

theorem stepI (b : List Int) (at' n : Nat) (v c p : Int) (hl : b.length ≤ 1048576) (hin : at' + n < b.length) (hn : n ≤ 8) (hc : rd b ((at' + n : Nat) : Int) = c) (hc0 : 0 ≤ c) (hc1 : c ≤ 255)
 (hp0 : 0 < p) (hp1 : p ≤ 72057594037927936) (hp2 : Aside0 ((2 : Int) ^ (7 * n) = p)) (hsh : Aside0 (shl .i64 (c % 128) (7 * (n : Int)) = c % 128 * p)) (hv0 : 0 ≤ v) (hv1 : v < p) (k : Nat) :
 F9.l0 (k + 2) b at' v n = if c < 128 then (if v + c % 128 * p > 4611686018427387903 then some (0, 0, 3) else if v + c % 128 * p < 0 then some (0, 0, 3) else if c = 0 then (if (n : Int) > 0 then some (0, 0, 3) else some (v + c % 128 * p, ((at' + n + 1 : Nat) : Int), 0)) else some (v + c % 128 * p, ((at' + n + 1 : Nat) : Int), 0)) else F9.l0 k b at' (v + c % 128 * p) ((n + 1 : Nat) : Int) := by
 have hadd : wrap64 ((at' : Int) + (n : Int)) = ((at' + n : Nat) : Int) := by rw [w64 (by omega) (by omega)]; omega
 have hlt : decide (wrap64 ((at' : Int) + (n : Int)) < (b.length : Int)) = true := by rw [hadd]; exact decide_eq_true (by omega)
 have hnx : wrap64 (((at' + n : Nat) : Int) + 1) = ((at' + n + 1 : Nat) : Int) := by rw [w64 (by omega) (by omega)]; omega
 have hn1 : wrap64 ((n : Int) + 1) = ((n + 1 : Nat) : Int) := by rw [w64 (by omega) (by omega)]; omega
 have hc7 : c % 128 ≤ 127 := by omega
 have hq : c % 128 * p ≤ 127 * p := Int.mul_le_mul_of_nonneg_right hc7 (by omega)
 have hq0 : 0 ≤ c % 128 * p := Int.mul_nonneg (by omega) (by omega)
 have hshift : (0 : Int) ≤ wrap64 (7 * (n : Int)) := by rw [w64 (by omega) (by omega)]; omega
 have hor : Go.bits .or .i64 v (shl .i64 (wrap64 (Go.bits .and .u8 c 127)) (wrap64 (7 * (n : Int)))) = v + c % 128 * p := by
  have b1 : v < 2 ^ 63 := by omega
  have b2 : c % 128 * p < 2 ^ 63 := by omega
  have b3 : 7 * n ≤ 62 := by omega
  have b4 : wrap64 (7 * (n : Int)) = 7 * (n : Int) := w64 (by omega) (by omega)
  have b5 : wrap64 (c % 128) = c % 128 := w64 (by omega) (by omega)
  have b6 : Go.bits .and .u8 c 127 = c % 128 := and127 _ hc0 (by omega)
  have hm : c % 128 * p % 2 ^ (7 * n) = 0 := by rw [hp2.out]; exact Int.mul_emod_left _ _
  have hv2 : v < 2 ^ (7 * n) := by rw [hp2.out]; exact hv1
  rw [b6, b5, b4, hsh.out, or_comm64 _ _ hv0 b1 hq0 b2, or_join (7 * n) b3 _ _ hq0 hm b2 hv0 hv2, Int.add_comm]
 rw [F9.l0, if_pos (by omega), hlt, F9.j1, if_pos rfl, hadd, if_pos (by omega), if_pos (by omega), if_pos hshift, hc, hor, hnx, hn1]

def GotAt (b : List Int) (at' n : Nat) (r : Int × Int × Bool) : Prop :=
 r.2.2 = true → 0 ≤ r.1 ∧ r.1 ≤ 4611686018427387903 ∧ ∃ m : Nat, n ≤ m ∧ m ≤ 8 ∧ at' + m < b.length ∧ r.2.1 = ((at' + m + 1 : Nat) : Int) ∧ b.getD (at' + m) 0 < 128 ∧ ∀ j, n ≤ j → j < m → ¬ b.getD (at' + j) 0 < 128

theorem both (b : List Int) (at' : Nat) (hl : b.length ≤ 1048576) (hat : at' ≤ b.length) (hb : ∀ x ∈ b, 0 ≤ x ∧ x ≤ 255) (d : Nat) : ∀ (n : Nat) (v : Int), n + d = 9 → 0 ≤ v → v < 128 ^ n →
 ∃ r : Int × Int × Bool, GotAt b at' n r ∧ ∀ k, 3 * d + 3 ≤ k → F32.l0 k b at' v (128 ^ (min n 8)) n = some r ∧ F9.l0 k b at' v n = some (tell r) := by
 induction d with
 | zero =>
  intro n v hn h0 h1
  refine ⟨(0, 0, false), (fun h => by cases h), fun k hk => ?_⟩
  obtain ⟨k, rfl⟩ : ∃ m, k = m + 2 := ⟨k - 2, by omega⟩
  constructor
  ·rw [F32.l0, if_neg (by omega), F32.j1, if_neg (by decide)]
  ·rw [F9.l0, if_neg (by omega), F9.j1, if_neg (by decide)]; rfl
 | succ d ih =>
  intro n v hn h0 h1
  have en : min n 8 = n := by omega
  rw [en]
  by_cases hin : at' + n < b.length
  ·have hr := hb _ (rd_mem b (at' + n) hin)
   obtain ⟨hp0, hp1, hp2⟩ := pw n (by omega)
   obtain ⟨c, hc⟩ : ∃ c, rd b ((at' + n : Nat) : Int) = c := ⟨_, rfl⟩
   have hcD : b.getD (at' + n) 0 = c := by rw [← hc, rd_nat]
   rw [hc] at hr
   have hSt := stepS b at' n v c (128 ^ n) hl hin (by omega) hc hr.1 hr.2 hp0 hp1 h0 h1
   have hIt := stepI b at' n v c (128 ^ n) hl hin (by omega) hc hr.1 hr.2 hp0 hp1 ⟨hp2⟩ ⟨shl_at (c % 128) n (by omega) (by omega) (by omega)⟩ h0 h1
   have hc7 : c % 128 ≤ 127 := by omega
   have hq : c % 128 * 128 ^ n ≤ 127 * 128 ^ n := Int.mul_le_mul_of_nonneg_right hc7 (by omega)
   have hq0 : 0 ≤ c % 128 * 128 ^ n := Int.mul_nonneg (by omega) (by omega)
   have hnp : ((128 : Int) ^ n) * 128 = 128 ^ (n + 1) := (Int.pow_succ _ _).symm
   by_cases h8 : n = 8
   ·have e8 : (128 : Int) ^ n = 72057594037927936 := by rw [h8]; rfl
    rw [e8] at hSt hIt h1 hq hq0 ⊢
    by_cases h63 : c > 63
    ·refine ⟨(0, 0, false), (fun h => by cases h), fun k hk => ?_⟩
     obtain ⟨k, rfl⟩ : ∃ m, k = m + 4 := ⟨k - 4, by omega⟩
     constructor
     ·rw [hSt (k + 1), if_pos h8, if_pos (decide_eq_true h63)]
     ·rw [hIt (k + 2)]
      by_cases hc1 : c < 128
      ·rw [if_pos hc1, if_pos (by omega)]; rfl
      ·rw [if_neg hc1, F9.l0, if_neg (by omega), F9.j1, if_neg (by decide)]; rfl
    ·have hd : ¬ (decide (c > 63) = true) := by simpa using h63
     refine ⟨(v + c % 128 * 72057594037927936, ((at' + n + 1 : Nat) : Int), decide (c > 0)), ?_, fun k hk => ?_⟩
     ·intro _
      exact ⟨by simp only; omega, by simp only; omega, n, Nat.le_refl _, by omega, hin, rfl, by rw [hcD]; omega, fun j hj hj' => by omega⟩
     obtain ⟨k, rfl⟩ : ∃ m, k = m + 4 := ⟨k - 4, by omega⟩
     constructor
     ·rw [hSt (k + 1), if_pos h8, if_neg hd, if_pos (by omega), if_neg (by omega)]
     ·rw [hIt (k + 2), if_pos (by omega), if_neg (by omega), if_neg (by omega)]
      by_cases hc0 : c = 0
      ·subst hc0; rw [if_pos rfl, if_pos (by omega)]; rfl
      ·have hp : decide (c > 0) = true := decide_eq_true (by omega)
       rw [if_neg hc0]; simp [tell, hp]
   ·obtain ⟨hq3, hq4, _⟩ := pw (n + 1) (by omega)
    generalize hpp : (128 : Int) ^ n = p at *
    by_cases hc1 : c < 128
    ·refine ⟨(v + c % 128 * p, ((at' + n + 1 : Nat) : Int), decide (n = 0 ∨ c > 0)), ?_, fun k hk => ?_⟩
     ·intro _
      exact ⟨by simp only; omega, by simp only; omega, n, Nat.le_refl _, by omega, hin, rfl, by rw [hcD]; omega, fun j hj hj' => by omega⟩
     obtain ⟨k, rfl⟩ : ∃ m, k = m + 4 := ⟨k - 4, by omega⟩
     constructor
     ·rw [hSt (k + 1), if_neg h8, if_neg (by decide), if_pos hc1]
      by_cases hz : n = 0
      ·rw [if_pos (by omega)]; simp [hz]
      ·rw [if_neg (by omega)]; simp [hz]
     ·rw [hIt (k + 2), if_pos hc1, if_neg (by omega), if_neg (by omega)]
      by_cases hc0 : c = 0
      ·rw [if_pos hc0]
       by_cases hz : n = 0
       ·rw [if_neg (by omega)]; simp [tell, hz]
       ·rw [if_pos (by omega)]; simp [tell, hz, hc0]
      ·have : c > 0 := by omega
       rw [if_neg hc0]; simp [tell, this]
    ·obtain ⟨r, hG, hr'⟩ := ih (n + 1) (v + c % 128 * p) (by omega) (by omega) (by rw [← hnp]; omega)
     refine ⟨r, ?_, fun k hk => ?_⟩
     ·intro h
      obtain ⟨g1, g2, m, g3, g4, g5, g6, g7, g8⟩ := hG h
      refine ⟨g1, g2, m, by omega, g4, g5, g6, g7, fun j hj hj' => ?_⟩
      by_cases e : j = n
      ·rw [e, hcD]; exact hc1
      ·exact g8 j (by omega) hj'
     obtain ⟨k, rfl⟩ : ∃ m, k = m + 3 := ⟨k - 3, by omega⟩
     constructor
     ·rw [hSt k, if_neg h8, if_neg (by decide), if_neg hc1, if_pos (by omega), w64 (x := p * 128) (by omega) (by omega), hnp]
      have e2 : min (n + 1) 8 = n + 1 := by omega
      have := (hr' k (by omega)).1
      rwa [e2] at this
     ·rw [hIt (k + 1), if_neg hc1]
      exact (hr' (k + 1) (by omega)).2
  ·have hlt : decide (wrap64 ((at' : Int) + (n : Int)) < (b.length : Int)) = false := by rw [w64 (by omega) (by omega)]; exact decide_eq_false (by omega)
   refine ⟨(0, 0, false), (fun h => by cases h), fun k hk => ?_⟩
   obtain ⟨k, rfl⟩ : ∃ m, k = m + 2 := ⟨k - 2, by omega⟩
   constructor
   ·rw [F32.l0, if_pos (by omega), hlt, F32.j1, if_neg (by decide)]
   ·rw [F9.l0, if_pos (by omega), hlt, F9.j1, if_neg (by decide)]; rfl

theorem get_at (b : List Int) (n : Nat) (hl : b.length ≤ 1048576) (hn : n ≤ b.length) (hb : ∀ x ∈ b, 0 ≤ x ∧ x ≤ 255) :
 ∃ r : Int × Int × Bool, GotAt b n 0 r ∧ Ev (fun k => F32.f k b (n : Int)) r ∧ Ev (fun k => F9.f k b (n : Int)) (tell r) := by
 obtain ⟨r, hG, hr⟩ := both b n hl hn hb 9 0 0 (by omega) (by omega) (by decide)
 refine ⟨r, hG, ⟨30, fun k hk => (hr k hk).1⟩, ⟨30, fun k hk => ?_⟩⟩
 show F9.f k b (n : Int) = some (tell r)
 unfold F9.f F40.f
 rw [if_neg (by omega), if_pos (by omega), decide_eq_true (by omega)]
 simp only [Option.bind_some, if_true]
 exact (hr k hk).2

theorem drop_cons {b : List Int} {a : Nat} {x : Int} {t : List Int} (h : b.drop a = x :: t) : b.getD a 0 = x ∧ b.drop (a + 1) = t := by
 have hlt : a < b.length := by
  rcases Nat.lt_or_ge a b.length with h' | h'
  ·exact h'
  ·rw [List.drop_of_length_le h'] at h; cases h
 rw [List.drop_eq_getElem_cons hlt] at h
 injection h with h1 h2
 refine ⟨?_, h2⟩
 rw [List.getD_eq_getElem?_getD, List.getElem?_eq_getElem hlt]; exact h1
def okNum (v : Int) : Prop := 0 ≤ v ∧ v ≤ 4611686018427387903
theorem gi_vb (b : List Int) (at' : Nat) (hl : b.length ≤ 1048576) (d : Nat) : ∀ (n : Nat) (v a : Int) (t : List Int), n + d = 8 → b.drop (at' + n) = vb d a ++ t → 0 ≤ a → a < 128 ^ (d + 1) → (n = 0 ∨ 0 < a) → 0 ≤ v → v < 128 ^ n → v + a * 128 ^ n ≤ 4611686018427387903 →
 ∀ k, 2 * d + 2 ≤ k → F9.l0 k b at' v n = some (v + a * 128 ^ n, ((at' + n + (vb d a).length : Nat) : Int), 0) := by
 have small : ∀ (n : Nat) (v a : Int) (t : List Int), n ≤ 8 → b.drop (at' + n) = a :: t → 0 ≤ a → a < 128 → (n = 0 ∨ 0 < a) → 0 ≤ v → v < 128 ^ n → v + a * 128 ^ n ≤ 4611686018427387903 → ∀ k, 2 ≤ k → F9.l0 k b at' v n = some (v + a * 128 ^ n, ((at' + n + 1 : Nat) : Int), 0) := by
  intro n v a t hn hd h0 h1 hz hv0 hv1 hm k hk
  obtain ⟨m, rfl⟩ : ∃ m, k = m + 2 := ⟨k - 2, by omega⟩
  obtain ⟨f1, f2⟩ := drop_cons hd
  have hin : at' + n < b.length := by
   have := congrArg List.length hd
   simp at this
   omega
  obtain ⟨p0, p1, p2⟩ := pw n hn
  have e := stepI b at' n v a (128 ^ n) hl hin hn (by rw [rd_nat]; exact f1) h0 (by omega) p0 p1 ⟨p2⟩ ⟨shl_at _ n hn (by omega) (by omega)⟩ hv0 hv1 m
  have ea : a % 128 = a := Int.emod_eq_of_lt h0 h1
  rw [ea] at e
  have hq : 0 ≤ a * 128 ^ n := Int.mul_nonneg h0 (by omega)
  rw [e, if_pos h1, if_neg (by omega), if_neg (by omega)]
  by_cases c : a = 0
  ·rw [if_pos c, if_neg (by omega)]
  ·rw [if_neg c]
 induction d with
 | zero =>
  intro n v a t hn hd h0 h1 hz hv0 hv1 hm k hk
  simp at h1
  exact small n v a t (by omega) hd h0 h1 hz hv0 hv1 hm k (by omega)
 | succ d ih =>
  intro n v a t hn hd h0 h1 hz hv0 hv1 hm k hk
  have es : (128 : Int) ^ (d + 1 + 1) = 128 ^ (d + 1) * 128 := Int.pow_succ _ _
  rw [es] at h1
  by_cases c : a < 128
  ·have ev : vb (d + 1) a = [a] := by rw [vb, if_pos c]
   rw [ev] at hd ⊢
   exact small n v a t (by omega) hd h0 c hz hv0 hv1 hm k (by omega)
  ·have ev : vb (d + 1) a = (128 + a % 128) :: vb d (a / 128) := by rw [vb, if_neg c]
   rw [ev] at hd ⊢
   rw [List.cons_append] at hd
   obtain ⟨f1, f2⟩ := drop_cons hd
   have hin : at' + n < b.length := by
    have := congrArg List.length hd
    simp at this
    omega
   obtain ⟨p0, p1, p2⟩ := pw n (by omega)
   have es2 : (128 : Int) ^ (n + 1) = 128 ^ n * 128 := Int.pow_succ _ _
   obtain ⟨m, rfl⟩ : ∃ m, k = m + 2 := ⟨k - 2, by omega⟩
   have e := stepI b at' n v (128 + a % 128) (128 ^ n) hl hin (by omega) (by rw [rd_nat]; exact f1) (by omega) (by omega) p0 p1 ⟨p2⟩ ⟨shl_at _ n (by omega) (by omega) (by omega)⟩ hv0 hv1 m
   have ea : (128 + a % 128) % 128 = a % 128 := by omega
   rw [ea] at e
   have h127 : a % 128 * 128 ^ n ≤ 127 * 128 ^ n := Int.mul_le_mul_of_nonneg_right (by omega) (by omega)
   have hq0 : 0 ≤ a % 128 * 128 ^ n := Int.mul_nonneg (by omega) (by omega)
   have key : v + a % 128 * 128 ^ n + a / 128 * 128 ^ (n + 1) = v + a * 128 ^ n := by
    rw [es2, Int.mul_comm (128 ^ n) 128, ← Int.mul_assoc, Int.add_assoc, ← Int.add_mul]
    congr 2
    omega
   have := ih (n + 1) (v + a % 128 * 128 ^ n) (a / 128) t (by omega) (by rw [← Nat.add_assoc]; exact f2) (by omega) (by omega) (.inr (by omega)) (by omega) (by rw [es2]; omega) (by rw [key]; exact hm) m (by omega)
   rw [e, if_neg (by omega), this, key, List.length_cons]
   congr 3
   omega
theorem get_vb (b : List Int) (at' : Nat) (hl : b.length ≤ 1048576) (hat : at' ≤ b.length) (a : Int) (t : List Int) (hd : b.drop at' = vb 8 a ++ t) (ha : okNum a) : Ev (fun k => F9.f k b (at' : Int)) (a, ((at' + (vb 8 a).length : Nat) : Int), 0) := by
 refine ⟨20, fun k hk => ?_⟩
 have h9 : (128 : Int) ^ (8 + 1) = 9223372036854775808 := by decide
 have h := gi_vb b at' hl 8 0 0 a t (by omega) hd ha.1 (by rw [h9]; have := ha.2; omega) (.inl rfl) (by omega) (by decide) (by rw [Int.pow_zero, Int.mul_one]; have := ha.2; omega) k (by omega)
 show F9.f k b (at' : Int) = _
 unfold F9.f F40.f
 rw [if_neg (by omega), if_pos (by omega), decide_eq_true (by omega)]
 simp only [Option.bind_some, if_true]
 rw [Int.pow_zero, Int.mul_one, Int.zero_add] at h
 exact h
theorem Ev_uniq {α : Type} {f : Nat → Option α} {x y : α} (h : Ev f x) (g : Ev f y) : x = y := by
 obtain ⟨a, ha⟩ := h
 obtain ⟨c, hc⟩ := g
 have h1 := ha (a + c) (by omega)
 have h2 := hc (a + c) (by omega)
 rw [h1] at h2
 exact Option.some.inj h2
def Told (b : List Int) (n : Nat) (o : Option (Int × Nat)) : Prop := match o with
 | none => (∃ x y : Int, Ev (fun k => F32.f k b (n : Int)) (x, y, false)) ∧ Ev (fun k => F9.f k b (n : Int)) (0, 0, 3)
 | some (v, m) => 0 ≤ v ∧ v ≤ 4611686018427387903 ∧ n < m ∧ m ≤ b.length ∧ Ev (fun k => F32.f k b (n : Int)) (v, (m : Int), true) ∧ Ev (fun k => F9.f k b (n : Int)) (v, (m : Int), 0)
theorem told_ex (b : List Int) (hl : b.length ≤ 1048576) (hb : ∀ x ∈ b, 0 ≤ x ∧ x ≤ 255) : ∃ num : Nat → Option (Int × Nat), ∀ n, n ≤ b.length → Told b n (num n) := by
 have h : ∀ n, ∃ o, n ≤ b.length → Told b n o := by
  intro n
  by_cases hn : n ≤ b.length
  ·obtain ⟨⟨v, x, ok⟩, hG, hs, hi⟩ := get_at b n hl hn hb
   cases ok with
   | false => exact ⟨none, fun _ => ⟨⟨v, x, hs⟩, hi⟩⟩
   | true =>
    obtain ⟨h0, h1, m, _, _, hm, hx, _⟩ := hG rfl
    simp only at h0 h1 hx
    subst hx
    exact ⟨some (v, n + m + 1), fun _ => ⟨h0, h1, by omega, by omega, hs, hi⟩⟩
  ·exact ⟨none, fun h => absurd h hn⟩
 exact ⟨fun n => Classical.choose (h n), fun n hn => Classical.choose_spec (h n) hn⟩
def numOf (v : Int) : Int := if Int.tmod v 2 = 1 then wrap64 (Int.tdiv (wrap64 (-(wrap64 (v + 1)))) 2) else wrap64 (Int.tdiv v 2)
section
variable (b : List Int) (num : Nat → Option (Int × Nat))
def rtext (n : Nat) : Option (ByteArray × Nat) := match num n with
 | none => none
 | some (v, m) => if v > 65536 ∨ (m : Int) + v > (b.length : Int) then none else some (strOfNums ((b.take (m + v.toNat)).drop m), m + v.toNat)
def rcount (n : Nat) : Option (Nat × Nat) := match num n with
 | none => none
 | some (v, m) => if v > 4096 then none else some (v.toNat, m)
def rnumber (n : Nat) : Option (Int × Nat) := match num n with
 | none => none
 | some (v, m) => if v > 2000000000000 then none else some (numOf v, m)
def rtexts : Nat → Nat → List ByteArray → Option (List ByteArray × Nat)
 | 0, n, acc => some (acc, n)
 | c + 1, n, acc => (rtext b num n).bind fun p => rtexts c p.2 (acc ++ [p.1])
def rnums : Nat → Nat → List Int → Option (List Int × Nat)
 | 0, n, acc => some (acc, n)
 | c + 1, n, acc => (rnumber num n).bind fun p => rnums c p.2 (acc ++ [p.1])
def rval (n : Nat) : Option (S66 × Nat) :=
 (rtext b num n).bind fun p => (rcount num p.2).bind fun q => (rtexts b num q.1 q.2 []).bind fun t => (rcount num t.2).bind fun q2 => (rnums num q2.1 q2.2 []).bind fun u => some (⟨p.1, t.1, u.1⟩, u.2)
def rvals : Nat → Nat → List S66 → Option (List S66 × Nat)
 | 0, n, acc => some (acc, n)
 | c + 1, n, acc => (rval b num n).bind fun p => rvals c p.2 (acc ++ [p.1])
def rdoc : Option (ByteArray × List S66 × Nat) :=
 (rtext b num 0).bind fun p => (rcount num p.2).bind fun q => (rvals b num q.1 q.2 []).bind fun t => some (p.1, t.1, t.2)
def Good (o : Option (ByteArray × List S66 × Nat)) (r : ByteArray × List S66 × Int × Bool) : Prop := match o with
 | some (i, vs, m) => r = (i, vs, (m : Int), false)
 | none => r.2.2.2 = true
variable {b num} (hl : b.length ≤ 1048576) (hnum : ∀ n, n ≤ b.length → Told b n (num n))
include hnum in
theorem rtext_le {n m : Nat} {t : ByteArray} (hn : n ≤ b.length) (h : rtext b num n = some (t, m)) : m ≤ b.length := by
 have ht := hnum n hn
 unfold rtext at h
 cases hv : num n with
 | none => rw [hv] at h; cases h
 | some p =>
  obtain ⟨v, m1⟩ := p
  rw [hv] at h ht
  obtain ⟨h0, h1, h2, h3, _, _⟩ := ht
  simp only at h
  by_cases c : v > 65536 ∨ (m1 : Int) + v > (b.length : Int)
  ·rw [if_pos c] at h; cases h
  ·rw [if_neg c] at h
   simp only [Option.some.injEq, Prod.mk.injEq] at h
   omega
include hnum in
theorem rcount_le {n m c : Nat} (hn : n ≤ b.length) (h : rcount num n = some (c, m)) : m ≤ b.length ∧ c ≤ 4096 := by
 have ht := hnum n hn
 unfold rcount at h
 cases hv : num n with
 | none => rw [hv] at h; cases h
 | some p =>
  obtain ⟨v, m1⟩ := p
  rw [hv] at h ht
  obtain ⟨h0, h1, h2, h3, _, _⟩ := ht
  simp only at h
  by_cases c : v > 4096
  ·rw [if_pos c] at h; cases h
  ·rw [if_neg c] at h
   simp only [Option.some.injEq, Prod.mk.injEq] at h
   omega
include hnum in
theorem rnumber_le {n m : Nat} {c : Int} (hn : n ≤ b.length) (h : rnumber num n = some (c, m)) : m ≤ b.length := by
 have ht := hnum n hn
 unfold rnumber at h
 cases hv : num n with
 | none => rw [hv] at h; cases h
 | some p =>
  obtain ⟨v, m1⟩ := p
  rw [hv] at h ht
  obtain ⟨h0, h1, h2, h3, _, _⟩ := ht
  simp only at h
  by_cases c : v > 2000000000000
  ·rw [if_pos c] at h; cases h
  ·rw [if_neg c] at h
   simp only [Option.some.injEq, Prod.mk.injEq] at h
   omega
include hnum in
theorem rtexts_le (c : Nat) : ∀ (n : Nat) (acc : List ByteArray) (ts : List ByteArray) (m : Nat), n ≤ b.length → rtexts b num c n acc = some (ts, m) → m ≤ b.length ∧ ts.length = acc.length + c := by
 induction c with
 | zero => intro n acc ts m hn h; simp only [rtexts, Option.some.injEq, Prod.mk.injEq] at h; obtain ⟨rfl, rfl⟩ := h; exact ⟨hn, rfl⟩
 | succ c ih =>
  intro n acc ts m hn h
  rw [rtexts] at h
  obtain ⟨⟨t, m1⟩, h1, h2⟩ := Option.bind_eq_some_iff.1 h
  have := ih m1 _ ts m (rtext_le hnum hn h1) h2
  rw [List.length_append, List.length_singleton] at this
  omega
include hnum in
theorem rnums_le (c : Nat) : ∀ (n : Nat) (acc : List Int) (ts : List Int) (m : Nat), n ≤ b.length → rnums num c n acc = some (ts, m) → m ≤ b.length ∧ ts.length = acc.length + c := by
 induction c with
 | zero => intro n acc ts m hn h; simp only [rnums, Option.some.injEq, Prod.mk.injEq] at h; obtain ⟨rfl, rfl⟩ := h; exact ⟨hn, rfl⟩
 | succ c ih =>
  intro n acc ts m hn h
  rw [rnums] at h
  obtain ⟨⟨t, m1⟩, h1, h2⟩ := Option.bind_eq_some_iff.1 h
  have := ih m1 _ ts m (rnumber_le hnum hn h1) h2
  rw [List.length_append, List.length_singleton] at this
  omega
include hnum in
include hnum in
include hnum in
include hnum in
include hl in
include hl hnum in
include hl hnum in
include hnum in
include hnum in
include hnum in
include hnum in
include hl hnum in
include hl hnum in
include hnum in
include hnum in
include hl hnum in
include hl hnum in
end
section
variable {b : List Int} {num : Nat → Option (Int × Nat)} (hl : b.length ≤ 1048576) (hnum : ∀ n, n ≤ b.length → Told b n (num n))
theorem iint_bad (a most : Int) : Ev (fun k => F12.f k b a true most) (0, a, true) := by
 unfold F12.f
 exact Ev.pos rfl (Ev.now _)
include hnum in
theorem iint_none {n : Nat} (most : Int) (hn : n ≤ b.length) (h : num n = none) : Ev (fun k => F12.f k b (n : Int) false most) (0, (n : Int), true) := by
 have ht := hnum n hn
 rw [h] at ht
 obtain ⟨_, hi⟩ := ht
 unfold F12.f
 exact Ev.neg Bool.false_ne_true (Ev.bind hi (Ev.neg (by decide) (Ev.now _)))
include hnum in
theorem iint_over {n m : Nat} {v : Int} (most : Int) (hn : n ≤ b.length) (h : num n = some (v, m)) (ho : v > most) : Ev (fun k => F12.f k b (n : Int) false most) (0, (n : Int), true) := by
 have ht := hnum n hn
 rw [h] at ht
 obtain ⟨_, _, _, _, _, hi⟩ := ht
 unfold F12.f
 exact Ev.neg Bool.false_ne_true (Ev.bind hi (Ev.pos rfl (Ev.pos ho (Ev.now _))))
include hnum in
theorem iint_some {n m : Nat} {v : Int} (most : Int) (hn : n ≤ b.length) (h : num n = some (v, m)) (ho : ¬ v > most) : Ev (fun k => F12.f k b (n : Int) false most) (v, (m : Int), false) := by
 have ht := hnum n hn
 rw [h] at ht
 obtain ⟨_, _, _, _, _, hi⟩ := ht
 unfold F12.f
 exact Ev.neg Bool.false_ne_true (Ev.bind hi (Ev.pos rfl (Ev.neg ho (Ev.now _))))
include hl in
include hl hnum in
theorem itext_some {n m : Nat} {t : ByteArray} (hn : n ≤ b.length) (h : rtext b num n = some (t, m)) : Ev (fun k => F22.f k b (n : Int) false) (t, (m : Int), false) := by
 have ht := hnum n hn
 unfold rtext at h
 cases hv : num n with
 | none => rw [hv] at h; cases h
 | some p =>
  obtain ⟨v, m1⟩ := p
  rw [hv] at h ht
  obtain ⟨h0, h1, h2, h3, _, _⟩ := ht
  simp only at h
  by_cases c : v > 65536 ∨ (m1 : Int) + v > (b.length : Int)
  ·rw [if_pos c] at h; cases h
  ·rw [if_neg c] at h
   simp only [Option.some.injEq, Prod.mk.injEq] at h
   obtain ⟨rfl, rfl⟩ := h
   unfold F22.f
   refine Ev.bind (iint_some hnum 65536 hn hv (by omega)) (Ev.pos (by dsimp only; omega) (Ev.pos (by dsimp only; omega) (Ev.pos (by dsimp only; omega) (Ev.pos (by dsimp only; omega) (Ev.pos (by omega) (Ev.neg (by simp) (Ev.neg (by dsimp only; omega) ?_)))))))
   have e : ((m1 : Int) + v).toNat = m1 + v.toNat := by omega
   have e2 : ((m1 + v.toNat : Nat) : Int) = (m1 : Int) + v := by omega
   rw [e2]
   dsimp only
   rw [e, Int.toNat_natCast]
   exact Ev.now _
include hl hnum in
theorem itext_none {n : Nat} (hn : n ≤ b.length) (h : rtext b num n = none) : ∃ a : Nat, a ≤ b.length ∧ Ev (fun k => F22.f k b (n : Int) false) ((⟨#[]⟩ : ByteArray), (a : Int), true) := by
 have ht := hnum n hn
 unfold rtext at h
 unfold F22.f
 cases hv : num n with
 | none => exact ⟨n, hn, Ev.bind (iint_none hnum 65536 hn hv) (Ev.pos (by dsimp only; omega) (Ev.pos (by dsimp only; omega) (Ev.pos (by dsimp only; omega) (Ev.pos (by dsimp only; omega) (Ev.pos (by omega) (Ev.pos rfl (Ev.now _)))))))⟩
 | some p =>
  obtain ⟨v, m1⟩ := p
  rw [hv] at h ht
  obtain ⟨h0, h1, h2, h3, _, _⟩ := ht
  simp only at h
  by_cases c : v > 65536 ∨ (m1 : Int) + v > (b.length : Int)
  ·by_cases c2 : v > 65536
   ·exact ⟨n, hn, Ev.bind (iint_over hnum 65536 hn hv c2) (Ev.pos (by dsimp only; omega) (Ev.pos (by dsimp only; omega) (Ev.pos (by dsimp only; omega) (Ev.pos (by dsimp only; omega) (Ev.pos (by omega) (Ev.pos rfl (Ev.now _)))))))⟩
   ·exact ⟨m1, h3, Ev.bind (iint_some hnum 65536 hn hv c2) (Ev.pos (by dsimp only; omega) (Ev.pos (by dsimp only; omega) (Ev.pos (by dsimp only; omega) (Ev.pos (by dsimp only; omega) (Ev.pos (by omega) (Ev.neg (by simp) (Ev.pos (by dsimp only; omega) (Ev.now _))))))))⟩
  ·rw [if_neg c] at h; cases h
include hnum in
theorem icount_some {n m c : Nat} (hn : n ≤ b.length) (h : rcount num n = some (c, m)) : Ev (fun k => F12.f k b (n : Int) false 4096) ((c : Int), (m : Int), false) := by
 have ht := hnum n hn
 unfold rcount at h
 cases hv : num n with
 | none => rw [hv] at h; cases h
 | some p =>
  obtain ⟨v, m1⟩ := p
  rw [hv] at h ht
  obtain ⟨h0, h1, h2, h3, _, _⟩ := ht
  simp only at h
  by_cases c : v > 4096
  ·rw [if_pos c] at h; cases h
  ·rw [if_neg c] at h
   simp only [Option.some.injEq, Prod.mk.injEq] at h
   obtain ⟨rfl, rfl⟩ := h
   rw [Int.toNat_of_nonneg h0]
   exact iint_some hnum 4096 hn hv c
include hnum in
theorem icount_none {n : Nat} (hn : n ≤ b.length) (h : rcount num n = none) : Ev (fun k => F12.f k b (n : Int) false 4096) (0, (n : Int), true) := by
 unfold rcount at h
 cases hv : num n with
 | none => exact iint_none hnum 4096 hn hv
 | some p =>
  obtain ⟨v, m1⟩ := p
  rw [hv] at h
  simp only at h
  by_cases c : v > 4096
  ·exact iint_over hnum 4096 hn hv c
  ·rw [if_neg c] at h; cases h
include hnum in
theorem inumber_some {n m : Nat} {c : Int} (hn : n ≤ b.length) (h : rnumber num n = some (c, m)) : ∃ v : Int, c = numOf v ∧ Ev (fun k => F12.f k b (n : Int) false 2000000000000) (v, (m : Int), false) := by
 unfold rnumber at h
 cases hv : num n with
 | none => rw [hv] at h; cases h
 | some p =>
  obtain ⟨v, m1⟩ := p
  rw [hv] at h
  simp only at h
  by_cases c : v > 2000000000000
  ·rw [if_pos c] at h; cases h
  ·rw [if_neg c] at h
   simp only [Option.some.injEq, Prod.mk.injEq] at h
   obtain ⟨rfl, rfl⟩ := h
   exact ⟨v, rfl, iint_some hnum _ hn hv c⟩
include hnum in
theorem inumber_none {n : Nat} (hn : n ≤ b.length) (h : rnumber num n = none) : Ev (fun k => F12.f k b (n : Int) false 2000000000000) (0, (n : Int), true) := by
 unfold rnumber at h
 cases hv : num n with
 | none => exact iint_none hnum _ hn hv
 | some p =>
  obtain ⟨v, m1⟩ := p
  rw [hv] at h
  simp only at h
  by_cases c : v > 2000000000000
  ·exact iint_over hnum _ hn hv c
  ·rw [if_neg c] at h; cases h
theorem il2_bad (x10 x11 a : Int) (id : ByteArray) (vals : List S66) (f : ByteArray) (ts : List ByteArray) (hv : vals.length < 2199023255552) : Ev (fun k => F2.l2 k x10 x11 0 0 b a true id vals f ts []) (id, vals ++ [⟨f, ts, []⟩], a, true) := by
 refine Ev.step (fun k => by rw [F2.l2]) ?_
 refine Ev.neg (by omega) (Ev.pos hv ?_)
 exact Ev.bind (Ev.now _) (Ev.pos rfl (Ev.now _))
theorem il1_bad (x10 x11 a : Int) (id : ByteArray) (vals : List S66) (f : ByteArray) (hv : vals.length < 2199023255552) : Ev (fun k => F2.l1 k x10 x11 0 0 b a true id vals f []) (id, vals ++ [⟨f, [], []⟩], a, true) := by
 refine Ev.step (fun k => by rw [F2.l1]) ?_
 exact Ev.neg (by omega) (Ev.bind (iint_bad _ _) (il2_bad _ _ _ _ _ _ _ hv))
include hl hnum in
theorem il1_some (x10 x11 : Int) (id : ByteArray) (vals : List S66) (f : ByteArray) (C : Nat) (hC : C ≤ 4096) (r : ByteArray × List S66 × Int × Bool) (c : Nat) : ∀ (j n : Nat) (acc : List ByteArray) (ts : List ByteArray) (m : Nat), j + c = C → n ≤ b.length → acc.length + c ≤ 4096 → rtexts b num c n acc = some (ts, m) →
 Ev (fun k => (F12.f k b (m : Int) false 4096).bind fun bt210 => (F2.l2 k x10 x11 bt210.1 0 b bt210.2.1 bt210.2.2 id vals f ts ([] : List Int))) r → Ev (fun k => F2.l1 k x10 x11 (C : Int) (j : Int) b (n : Int) false id vals f acc) r := by
 induction c with
 | zero =>
  intro j n acc ts m hj hn ha h hr
  simp only [rtexts, Option.some.injEq, Prod.mk.injEq] at h
  obtain ⟨rfl, rfl⟩ := h
  refine Ev.step (fun k => by rw [F2.l1]) ?_
  exact Ev.neg (by omega) hr
 | succ c ih =>
  intro j n acc ts m hj hn ha h hr
  rw [rtexts] at h
  obtain ⟨⟨t, m1⟩, h1, h2⟩ := Option.bind_eq_some_iff.1 h
  refine Ev.step (fun k => by rw [F2.l1, wnD j (by omega)]) ?_
  refine Ev.pos (by omega) (Ev.bind (itext_some hl hnum hn h1) (Ev.pos (by omega) (Ev.neg Bool.false_ne_true ?_)))
  exact ih (j + 1) m1 _ ts m (by omega) (rtext_le hnum hn h1) (by rw [List.length_append, List.length_singleton]; omega) h2 hr
include hl hnum in
theorem il1_none (x10 x11 : Int) (id : ByteArray) (vals : List S66) (f : ByteArray) (C : Nat) (hC : C ≤ 4096) (c : Nat) : ∀ (j n : Nat) (acc : List ByteArray), j + c = C → n ≤ b.length → acc.length + c ≤ 4096 → rtexts b num c n acc = none →
 ∃ r : ByteArray × List S66 × Int × Bool, r.2.2.2 = true ∧ Ev (fun k => F2.l1 k x10 x11 (C : Int) (j : Int) b (n : Int) false id vals f acc) r := by
 induction c with
 | zero => intro j n acc hj hn ha h; simp [rtexts] at h
 | succ c ih =>
  intro j n acc hj hn ha h
  rw [rtexts] at h
  cases h1 : rtext b num n with
  | none =>
   obtain ⟨a, ha', ht⟩ := itext_none hl hnum hn h1
   refine ⟨(id, vals, (a : Int), true), rfl, ?_⟩
   refine Ev.step (fun k => by rw [F2.l1, wnD j (by omega)]) ?_
   exact Ev.pos (by omega) (Ev.bind ht (Ev.pos (by omega) (Ev.pos rfl (Ev.now _))))
  | some p =>
   obtain ⟨t, m1⟩ := p
   rw [h1] at h
   obtain ⟨r, hr, hE⟩ := ih (j + 1) m1 (acc ++ [t]) (by omega) (rtext_le hnum hn h1) (by rw [List.length_append, List.length_singleton]; omega) h
   refine ⟨r, hr, ?_⟩
   refine Ev.step (fun k => by rw [F2.l1, wnD j (by omega)]) ?_
   exact Ev.pos (by omega) (Ev.bind (itext_some hl hnum hn h1) (Ev.pos (by omega) (Ev.neg Bool.false_ne_true hE)))
include hnum in
theorem il2_some (x10 x11 : Int) (id : ByteArray) (vals : List S66) (f : ByteArray) (ts : List ByteArray) (hv : vals.length < 2199023255552) (C : Nat) (hC : C ≤ 4096) (r : ByteArray × List S66 × Int × Bool) (c : Nat) : ∀ (j n : Nat) (acc : List Int) (ns : List Int) (m : Nat), j + c = C → n ≤ b.length → acc.length + c ≤ 4096 → rnums num c n acc = some (ns, m) →
 Ev (fun k => F2.l0 k x10 (wrap64 (x11 + 1)) b (m : Int) false id (vals ++ [⟨f, ts, ns⟩])) r → Ev (fun k => F2.l2 k x10 x11 (C : Int) (j : Int) b (n : Int) false id vals f ts acc) r := by
 induction c with
 | zero =>
  intro j n acc ns m hj hn ha h hr
  simp only [rnums, Option.some.injEq, Prod.mk.injEq] at h
  obtain ⟨rfl, rfl⟩ := h
  refine Ev.step (fun k => by rw [F2.l2]) ?_
  refine Ev.neg (by omega) (Ev.pos hv ?_)
  exact Ev.bind (Ev.now _) (Ev.neg Bool.false_ne_true hr)
 | succ c ih =>
  intro j n acc ns m hj hn ha h hr
  rw [rnums] at h
  obtain ⟨⟨t, m1⟩, h1, h2⟩ := Option.bind_eq_some_iff.1 h
  obtain ⟨v, rfl, hi⟩ := inumber_some hnum hn h1
  have hE := ih (j + 1) m1 _ ns m (by omega) (rnumber_le hnum hn h1) (by rw [List.length_append, List.length_singleton]; omega) h2 hr
  refine Ev.step (fun k => by rw [F2.l2, wnD j (by omega)]) ?_
  refine Ev.pos (by omega) (Ev.bind hi ?_)
  unfold numOf at hE
  by_cases d : Int.tmod v 2 = 1
  ·simp only [if_pos d] at hE
   exact Ev.pos d (Ev.pos (by omega) (Ev.neg Bool.false_ne_true hE))
  ·simp only [if_neg d] at hE
   exact Ev.neg d (Ev.pos (by omega) (Ev.neg Bool.false_ne_true hE))
include hnum in
theorem il2_none (x10 x11 : Int) (id : ByteArray) (vals : List S66) (f : ByteArray) (ts : List ByteArray) (C : Nat) (hC : C ≤ 4096) (c : Nat) : ∀ (j n : Nat) (acc : List Int), j + c = C → n ≤ b.length → acc.length + c ≤ 4096 → rnums num c n acc = none →
 ∃ r : ByteArray × List S66 × Int × Bool, r.2.2.2 = true ∧ Ev (fun k => F2.l2 k x10 x11 (C : Int) (j : Int) b (n : Int) false id vals f ts acc) r := by
 induction c with
 | zero => intro j n acc hj hn ha h; simp [rnums] at h
 | succ c ih =>
  intro j n acc hj hn ha h
  rw [rnums] at h
  cases h1 : rnumber num n with
  | none =>
   have ht := inumber_none hnum hn h1
   refine ⟨(id, vals, (n : Int), true), rfl, ?_⟩
   refine Ev.step (fun k => by rw [F2.l2, wnD j (by omega)]) ?_
   exact Ev.pos (by omega) (Ev.bind ht (Ev.neg (by simp) (Ev.pos (by omega) (Ev.pos rfl (Ev.now _)))))
  | some p =>
   obtain ⟨t, m1⟩ := p
   rw [h1] at h
   obtain ⟨v, rfl, hi⟩ := inumber_some hnum hn h1
   obtain ⟨r, hr, hE⟩ := ih (j + 1) m1 (acc ++ [numOf v]) (by omega) (rnumber_le hnum hn h1) (by rw [List.length_append, List.length_singleton]; omega) h
   refine ⟨r, hr, ?_⟩
   refine Ev.step (fun k => by rw [F2.l2, wnD j (by omega)]) ?_
   refine Ev.pos (by omega) (Ev.bind hi ?_)
   unfold numOf at hE
   by_cases d : Int.tmod v 2 = 1
   ·simp only [if_pos d] at hE
    exact Ev.pos d (Ev.pos (by omega) (Ev.neg Bool.false_ne_true hE))
   ·simp only [if_neg d] at hE
    exact Ev.neg d (Ev.pos (by omega) (Ev.neg Bool.false_ne_true hE))
include hl hnum in
theorem il0_good (id : ByteArray) (N : Nat) (hN : N ≤ 4096) (c : Nat) : ∀ (i n : Nat) (vals : List S66), i + c = N → n ≤ b.length → vals.length + c ≤ 4096 →
 ∃ r : ByteArray × List S66 × Int × Bool, Good ((rvals b num c n vals).bind fun t => some (id, t.1, t.2)) r ∧ Ev (fun k => F2.l0 k (N : Int) (i : Int) b (n : Int) false id vals) r := by
 induction c with
 | zero =>
  intro i n vals hi hn hv
  refine ⟨(id, vals, (n : Int), false), rfl, ?_⟩
  refine Ev.step (fun k => by rw [F2.l0]) ?_
  exact Ev.neg (by omega) (Ev.now _)
 | succ c ih =>
  intro i n vals hi hn hv
  have hv' : vals.length < 2199023255552 := by omega
  suffices hs : ∃ r : ByteArray × List S66 × Int × Bool, Good ((rvals b num (c + 1) n vals).bind fun t => some (id, t.1, t.2)) r ∧ Ev (fun k => (F22.f k b (n : Int) false).bind fun bt197 => ((F12.f k b bt197.2.1 bt197.2.2 4096).bind fun bt201 => (F2.l1 k (N : Int) (i : Int) bt201.1 0 b bt201.2.1 bt201.2.2 id vals bt197.1 ([] : List ByteArray)))) r by
   obtain ⟨r, hg, hr⟩ := hs
   refine ⟨r, hg, ?_⟩
   refine Ev.step (fun k => by rw [F2.l0]) ?_
   exact Ev.pos (by omega) hr
  rw [rvals]
  unfold rval
  cases h1 : rtext b num n with
  | none =>
   obtain ⟨a, ha, ht⟩ := itext_none hl hnum hn h1
   exact ⟨_, (by rfl), Ev.bind ht (Ev.bind (iint_bad _ _) (il1_bad _ _ _ _ _ _ hv'))⟩
  | some p =>
   obtain ⟨f, m1⟩ := p
   have l1 := rtext_le hnum hn h1
   have ht := itext_some hl hnum hn h1
   simp only [Option.bind_some]
   cases h2 : rcount num m1 with
   | none =>
    have hc := icount_none hnum l1 h2
    exact ⟨_, (by rfl), Ev.bind ht (Ev.bind hc (il1_bad _ _ _ _ _ _ hv'))⟩
   | some p =>
    obtain ⟨c1, m2⟩ := p
    have l2 := rcount_le hnum l1 h2
    have hc := icount_some hnum l1 h2
    simp only [Option.bind_some]
    cases h3 : rtexts b num c1 m2 [] with
    | none =>
     obtain ⟨r, hr, hE⟩ := il1_none hl hnum (N : Int) (i : Int) id vals f c1 l2.2 c1 0 m2 [] (by omega) l2.1 (by simp only [List.length_nil]; omega) h3
     exact ⟨r, hr, Ev.bind ht (Ev.bind hc hE)⟩
    | some p =>
     obtain ⟨ts, m3⟩ := p
     have l3 := rtexts_le hnum _ _ _ _ _ l2.1 h3
     have H := fun r => il1_some hl hnum (N : Int) (i : Int) id vals f c1 l2.2 r c1 0 m2 [] ts m3 (by omega) l2.1 (by simp only [List.length_nil]; omega) h3
     simp only [Option.bind_some]
     suffices hs : ∃ r : ByteArray × List S66 × Int × Bool, Good (((((rcount num m3).bind fun q2 => (rnums num q2.1 q2.2 []).bind fun u => some ((⟨f, ts, u.1⟩ : S66), u.2)).bind fun p => rvals b num c p.2 (vals ++ [p.1])).bind fun t => some (id, t.1, t.2))) r ∧ Ev (fun k => (F12.f k b (m3 : Int) false 4096).bind fun bt210 => (F2.l2 k (N : Int) (i : Int) bt210.1 0 b bt210.2.1 bt210.2.2 id vals f ts ([] : List Int))) r by
      obtain ⟨r, hg, hr⟩ := hs
      exact ⟨r, hg, Ev.bind ht (Ev.bind hc (H r hr))⟩
     cases h4 : rcount num m3 with
     | none =>
      have hc2 := icount_none hnum l3.1 h4
      exact ⟨_, (by rfl), Ev.bind hc2 (il2_bad _ _ _ _ _ _ _ hv')⟩
     | some p =>
      obtain ⟨c2, m4⟩ := p
      have l4 := rcount_le hnum l3.1 h4
      have hc2 := icount_some hnum l3.1 h4
      simp only [Option.bind_some]
      cases h5 : rnums num c2 m4 [] with
      | none =>
       obtain ⟨r, hr, hE⟩ := il2_none hnum (N : Int) (i : Int) id vals f ts c2 l4.2 c2 0 m4 [] (by omega) l4.1 (by simp only [List.length_nil]; omega) h5
       exact ⟨r, hr, Ev.bind hc2 hE⟩
      | some p =>
       obtain ⟨ns, m5⟩ := p
       have l5 := rnums_le hnum _ _ _ _ _ l4.1 h5
       obtain ⟨r, hg, hE⟩ := ih (i + 1) m5 (vals ++ [⟨f, ts, ns⟩]) (by omega) l5.1 (by rw [List.length_append, List.length_singleton]; omega)
       rw [← wnD i (by omega)] at hE
       exact ⟨r, hg, Ev.bind hc2 (il2_some hnum (N : Int) (i : Int) id vals f ts hv' c2 l4.2 r c2 0 m4 [] ns m5 (by omega) l4.1 (by simp only [List.length_nil]; omega) h5 hE)⟩
include hl hnum in
theorem idoc_good : ∃ r : ByteArray × List S66 × Int × Bool, Good (rdoc b num) r ∧ Ev (fun k => F2.f k b 0 false) r := by
 unfold rdoc F2.f
 have l0bad : ∀ (a : Int) (id : ByteArray), Ev (fun k => F2.l0 k 0 0 b a true id []) (id, [], a, true) := fun a id => by
  refine Ev.step (fun k => by rw [F2.l0]) ?_
  exact Ev.neg (by omega) (Ev.now _)
 cases h1 : rtext b num 0 with
 | none =>
  obtain ⟨a, ha, ht⟩ := itext_none hl hnum (Nat.zero_le _) h1
  exact ⟨_, (by rfl), Ev.bind ht (Ev.bind (iint_bad _ _) (l0bad _ _))⟩
 | some p =>
  obtain ⟨id, m1⟩ := p
  have l1 := rtext_le hnum (Nat.zero_le _) h1
  have ht := itext_some hl hnum (Nat.zero_le _) h1
  simp only [Option.bind_some]
  cases h2 : rcount num m1 with
  | none =>
   have hc := icount_none hnum l1 h2
   exact ⟨_, (by rfl), Ev.bind ht (Ev.bind hc (l0bad _ _))⟩
  | some p =>
   obtain ⟨c, m2⟩ := p
   have l2 := rcount_le hnum l1 h2
   have hc := icount_some hnum l1 h2
   obtain ⟨r, hg, hE⟩ := il0_good hl hnum id c l2.2 c 0 m2 [] (by omega) l2.1 (by simp only [List.length_nil]; omega)
   exact ⟨r, hg, Ev.bind ht (Ev.bind hc hE)⟩
end
theorem within_ev (n : Int) : F40.f n (-1000000000000) 1000000000000 = some (numOK n) := by
 unfold F40.f numOK
 split
 ·congr 1; rw [Bool.eq_iff_iff]; simp; omega
 ·rename_i h; rw [decide_eq_false (by omega)]
theorem d2_ev (id : ByteArray) (l : List S66) (i : Nat) (v : S66) (hv : okV v) (r : List Int × Int) (d : Nat) : ∀ j, j + d = v.f2.length → ((v.f2.drop j).all numOK = true → Ev (fun k => F0.l0 k l (l.length : Int) (wrap64 ((i : Int) + 1)) id l) r) → Ev (fun k => F0.l2 k l (l.length : Int) (i : Int) v.f2 (v.f2.length : Int) (j : Int) id l) (if (v.f2.drop j).all numOK then r else ([], 12)) := by
 obtain ⟨h1, h2⟩ := hv
 induction d with
 | zero =>
  intro j hj hc
  rw [List.drop_of_length_le (by omega)] at hc ⊢
  exact Ev.step (fun k => by rw [F0.l2, if_neg (by omega)]) (hc rfl)
 | succ d ih =>
  intro j hj hc
  rw [drop_at _ j (by omega), List.all_cons] at hc ⊢
  refine Ev.step (fun k => by rw [F0.l2, if_pos (by omega), if_pos (by omega), if_pos (by omega), rdI_at _ _ (by omega), wnD j (by omega), within_ev, Option.bind_some]) ?_
  by_cases c : numOK v.f2[j] = true
  ·rw [c, Bool.true_and] at hc ⊢; exact Ev.pos rfl (ih (j + 1) (by omega) hc)
  ·rw [Bool.eq_false_iff.2 c, Bool.false_and]; exact Ev.neg Bool.false_ne_true (Ev.now _)
theorem d1_ev (id : ByteArray) (l : List S66) (i : Nat) (v : S66) (hv : okV v) (r : List Int × Int) (d : Nat) : ∀ j, j + d = v.f1.length → (((v.f1.drop j).all txtOK && v.f2.all numOK) = true → Ev (fun k => F0.l0 k l (l.length : Int) (wrap64 ((i : Int) + 1)) id l) r) → Ev (fun k => F0.l1 k l (l.length : Int) (i : Int) v.f1 (v.f1.length : Int) (j : Int) id l v.f0 v.f1 v.f2) (if (v.f1.drop j).all txtOK && v.f2.all numOK then r else ([], 12)) := by
 have h1 := hv.1
 induction d with
 | zero =>
  intro j hj hc
  rw [List.drop_of_length_le (by omega)] at hc ⊢
  have h := d2_ev id l i v hv r v.f2.length 0 (by omega) (by rw [List.drop_zero]; exact hc)
  rw [List.drop_zero, n0] at h
  exact Ev.step (fun k => by rw [F0.l1, if_neg (by omega)]) h
 | succ d ih =>
  intro j hj hc
  rw [drop_at _ j (by omega), List.all_cons] at hc ⊢
  refine Ev.step (fun k => by rw [F0.l1, if_pos (by omega), if_pos (by omega), if_pos (by omega), rdS_at _ _ (by omega), wnD j (by omega)]) ?_
  by_cases c : ((v.f1[j]).size : Int) > 65536
  ·rw [show txtOK v.f1[j] = false from decide_eq_false (by omega), Bool.false_and, Bool.false_and]; exact Ev.pos c (Ev.now _)
  ·rw [show txtOK v.f1[j] = true from decide_eq_true (by omega), Bool.true_and] at hc ⊢; exact Ev.neg c (ih (j + 1) (by omega) hc)
theorem d0_ev (id : ByteArray) (l : List S66) (hn : l.length ≤ 1048576) (hl : ∀ v ∈ l, okV v) (r : List Int × Int) (hc : l.all valOK = true → Ev (fun k => (F39.f k ([] : List Int) id).bind fun t249 => ((F19.f k t249 (l.length : Int)).bind fun t252 => (F0.l3 k t252 l (l.length : Int) 0))) r) (d : Nat) : ∀ i, i + d = l.length → (l.take i).all valOK = true → Ev (fun k => F0.l0 k l (l.length : Int) (i : Int) id l) (if (l.drop i).all valOK then r else ([], 12)) := by
 induction d with
 | zero =>
  intro i hi ht
  rw [List.drop_of_length_le (by omega)]
  rw [List.take_of_length_le (by omega)] at ht
  exact Ev.step (fun k => by rw [F0.l0, if_neg (by omega)]) (hc ht)
 | succ d ih =>
  intro i hi ht
  have hi' : i < l.length := by omega
  have hv := hl _ (List.getElem_mem hi')
  have hc2 := fun h2 : valOK l[i] = true => ih (i + 1) (by omega) (by rw [List.take_succ_eq_append_getElem hi', List.all_append, ht, Bool.true_and]; simp [h2])
  rw [← wnD i (by omega)] at hc2
  rw [drop_at _ i hi', List.all_cons]
  refine Ev.step (fun k => by rw [F0.l0, if_pos (by omega), if_pos (by omega), if_pos (by omega), rd66_at _ _ hi']) ?_
  generalize l[i] = v at hv hc2 ⊢
  have no : valOK v = false → Ev (fun _ => some (([] : List Int), (12 : Int))) (if (valOK v && (l.drop (i + 1)).all valOK) = true then r else ([], 12)) := fun hb => by
   rw [hb, Bool.false_and]; exact Ev.now _
  by_cases c1 : (v.f0.size : Int) > 65536
  ·exact Ev.pos c1 (Ev.step (fun k => by rw [F0.j2]) (Ev.pos rfl (no (valOK_f v (by omega)))))
  ·refine Ev.neg c1 ?_
   by_cases c2 : (v.f1.length : Int) > 4096
   ·exact Ev.pos c2 (Ev.step (fun k => by rw [F0.j2]) (Ev.pos rfl (no (valOK_f v (by omega)))))
   ·refine Ev.neg c2 (Ev.step (fun k => by rw [F0.j2]) ?_)
    by_cases c3 : (v.f2.length : Int) > 4096
    ·rw [decide_eq_true c3]
     exact Ev.pos rfl (no (valOK_f v (by omega)))
    ·rw [decide_eq_false c3]
     refine Ev.neg Bool.false_ne_true ?_
     have ev : valOK v = (v.f1.all txtOK && v.f2.all numOK) := valOK_t v (by omega)
     have h := d1_ev id l i v hv _ v.f1.length 0 (by omega) (by rw [List.drop_zero, ← ev]; exact hc2)
     rw [List.drop_zero, ← ev, n0] at h
     cases hb : valOK v with
     | true => rw [hb] at h; rw [Bool.true_and]; exact h
     | false => rw [hb] at h; rw [Bool.false_and]; exact h
theorem putNI_ev (pre : List Int) (n : Int) (hn : numOK n = true) (h : pre.length ≤ 140737488355000) : Ev (fun k => if n < 0 then F19.f k pre (wrap64 ((wrap64 ((-2) * n)) - 1)) else F19.f k pre (wrap64 (2 * n))) (pre ++ nb n) := by
 have hv := nv_ok n hn
 have hb := of_decide_eq_true hn
 by_cases c : n < 0
 ·have e1 : wrap64 ((-2) * n) = -2 * n := w64 (by omega) (by omega)
  have e2 : wrap64 (-2 * n - 1) = nv n := by rw [w64 (by omega) (by omega)]; unfold nv; rw [if_pos c]
  rw [e1, e2]
  exact Ev.pos c (putI_ev pre _ h hv.1 (by omega))
 ·have e2 : wrap64 (2 * n) = nv n := by rw [w64 (by omega) (by omega)]; unfold nv; rw [if_neg c]
  rw [e2]
  exact Ev.neg c (putI_ev pre _ h hv.1 (by omega))
theorem d5_ev (l : List S66) (i : Nat) (v : S66) (h2 : v.f2.length ≤ 4096) (hN : ∀ n ∈ v.f2, numOK n = true) (r : List Int × Int) (d : Nat) : ∀ j pre, j + d = v.f2.length → pre.length + 9 * d ≤ 140737488350000 →
 Ev (fun k => F0.l3 k (pre ++ (v.f2.drop j).flatMap nb) l (l.length : Int) (wrap64 ((i : Int) + 1))) r → Ev (fun k => F0.l5 k pre l (l.length : Int) (i : Int) v.f2 (v.f2.length : Int) (j : Int)) r := by
 induction d with
 | zero =>
  intro j pre hj hp hc
  rw [List.drop_of_length_le (by omega), List.flatMap_nil, List.append_nil] at hc
  exact Ev.step (fun k => by rw [F0.l5, if_neg (by omega)]) hc
 | succ d ih =>
  intro j pre hj hp hc
  rw [drop_at _ j (by omega), List.flatMap_cons, ← List.append_assoc] at hc
  refine Ev.step (fun k => by rw [F0.l5, if_pos (by omega), if_pos (by omega), if_pos (by omega), rdI_at _ _ (by omega), wnD j (by omega)]) ?_
  have hq := (pb_len (nv (v.f2[j]'(by omega)))).2
  have hp2 := putNI_ev pre _ (hN _ (List.getElem_mem (show j < v.f2.length by omega))) (by omega)
  have hi := ih (j + 1) _ (by omega) (by rw [List.length_append]; unfold nb; omega) hc
  generalize v.f2[j]'(by omega) = n at hp2 hi ⊢
  by_cases c : n < 0
  ·refine Ev.pos c (Ev.bind (Ev.congr (fun k => (if_pos c).symm) hp2) hi)
  ·refine Ev.neg c (Ev.bind (Ev.congr (fun k => (if_neg c).symm) hp2) hi)
theorem d4_ev (l : List S66) (i : Nat) (v : S66) (h1 : v.f1.length ≤ 4096) (h2 : v.f2.length ≤ 4096) (hT : ∀ t ∈ v.f1, t.size ≤ 65536) (hN : ∀ n ∈ v.f2, numOK n = true) (r : List Int × Int) (d : Nat) : ∀ j pre, j + d = v.f1.length → pre.length + 65545 * d ≤ 140737488300000 →
 Ev (fun k => F0.l3 k (pre ++ ((v.f1.drop j).flatMap tb ++ (pb (v.f2.length : Int) ++ v.f2.flatMap nb))) l (l.length : Int) (wrap64 ((i : Int) + 1))) r → Ev (fun k => F0.l4 k pre l (l.length : Int) (i : Int) v.f1 (v.f1.length : Int) (j : Int) v.f0 v.f1 v.f2) r := by
 induction d with
 | zero =>
  intro j pre hj hp hc
  have hq := pb_len (v.f2.length : Int)
  rw [List.drop_of_length_le (by omega), List.flatMap_nil, List.nil_append, ← List.append_assoc] at hc
  refine Ev.step (fun k => by rw [F0.l4, if_neg (by omega)]) ?_
  refine Ev.bind (putI_ev pre _ (by omega) (by omega) (by omega)) ?_
  exact d5_ev l i v h2 hN r v.f2.length 0 _ (by omega) (by rw [List.length_append]; omega) (by rw [List.drop_zero]; exact hc)
 | succ d ih =>
  intro j pre hj hp hc
  rw [drop_at _ j (by omega), List.flatMap_cons, List.append_assoc, ← List.append_assoc] at hc
  refine Ev.step (fun k => by rw [F0.l4, if_pos (by omega), if_pos (by omega), if_pos (by omega), rdS_at _ _ (by omega), wnD j (by omega)]) ?_
  have ht := hT _ (List.getElem_mem (show j < v.f1.length by omega))
  have hq := tb_len (v.f1[j]'(by omega))
  refine Ev.bind (putTI_ev pre _ (by omega)) ?_
  exact ih (j + 1) _ (by omega) (by rw [List.length_append]; omega) hc
theorem d3_ev (l : List S66) (hn : l.length ≤ 4096) (hl : ∀ v ∈ l, valOK v = true) (d : Nat) : ∀ i pre, i + d = l.length → pre.length + 300000000 * d ≤ 140737480000000 → Ev (fun k => F0.l3 k pre l (l.length : Int) (i : Int)) (pre ++ (l.drop i).flatMap vbytes, 0) := by
 induction d with
 | zero =>
  intro i pre hi hp
  rw [List.drop_of_length_le (by omega), List.flatMap_nil, List.append_nil]
  exact Ev.step (fun k => by rw [F0.l3, if_neg (by omega)]) (Ev.now _)
 | succ d ih =>
  intro i pre hi hp
  have hv := hl _ (List.getElem_mem (show i < l.length by omega))
  rw [drop_at _ i (by omega), List.flatMap_cons]
  refine Ev.step (fun k => by rw [F0.l3, if_pos (by omega), if_pos (by omega), if_pos (by omega), rd66_at _ _ (by omega)]) ?_
  generalize l[i]'(by omega) = v at hv ⊢
  have hvl := vbytes_len v hv
  obtain ⟨g1, g2, g3, g4, g5⟩ := valOK_parts v hv
  have e1 := tb_len v.f0
  have e2 := pb_len (v.f1.length : Int)
  have hc := ih (i + 1) (pre ++ vbytes v) (by omega) (by rw [List.length_append]; omega)
  rw [← wnD i (by omega)] at hc
  refine Ev.bind (putTI_ev pre _ (by omega)) ?_
  refine Ev.bind (putI_ev _ _ (by rw [List.length_append]; omega) (by omega) (by omega)) ?_
  refine d4_ev l i v g2 g3 g4 g5 _ v.f1.length 0 _ (by omega) (by simp only [List.length_append]; omega) ?_
  rw [List.drop_zero]
  have e : pre ++ tb v.f0 ++ pb (v.f1.length : Int) ++ (v.f1.flatMap tb ++ (pb (v.f2.length : Int) ++ v.f2.flatMap nb)) = pre ++ vbytes v := by unfold vbytes; simp only [List.append_assoc]
  rw [e, ← List.append_assoc]
  exact hc
theorem impl_DocBytes_ev (id : ByteArray) (l : List S66) (hn : l.length ≤ 1048576) (hl : ∀ v ∈ l, okV v) : Ev (fun k => F0.f k id l) (docTell id l) := by
 unfold F0.f
 by_cases c1 : (id.size : Int) > 65536
 ·have e : docTell id l = ([], 12) := by unfold docTell; rw [fits_f id l (by omega)]; rfl
  rw [e]
  exact Ev.pos c1 (Ev.step (fun k => by rw [F0.j0]) (Ev.pos rfl (Ev.now _)))
 ·refine Ev.neg c1 (Ev.step (fun k => by rw [F0.j0]) ?_)
  by_cases c2 : (l.length : Int) > 4096
  ·have e : docTell id l = ([], 12) := by unfold docTell; rw [fits_f id l (by omega)]; rfl
   rw [e, decide_eq_true c2]
   exact Ev.pos rfl (Ev.now _)
  ·have ef : fits id l = l.all valOK := fits_t id l (by omega)
   rw [decide_eq_false c2]
   refine Ev.neg Bool.false_ne_true ?_
   have h := d0_ev id l hn hl (dbytes id l, 0) (fun hall => ?_) l.length 0 (by omega) (by simp)
   ·rw [List.drop_zero, ← ef, n0] at h
    unfold docTell
    exact h
   ·have e1 := tb_len id
    have e2 := pb_len (l.length : Int)
    have h0 := putTI_ev [] id (by simp; omega)
    rw [List.nil_append] at h0
    refine Ev.bind h0 (Ev.bind (putI_ev _ _ (by omega) (by omega) (by omega)) ?_)
    have hb := d3_ev l (by omega) (List.all_eq_true.1 hall) l.length 0 (tb id ++ pb (l.length : Int)) (by omega) (by rw [List.length_append]; omega)
    rw [List.drop_zero, List.append_assoc] at hb
    exact hb

theorem sum_both (xs : List Int) (hn : xs.length ≤ 1048576) (hb : ∀ x ∈ xs, 0 ≤ x ∧ x ≤ 255) (d : Nat) : ∀ (k i : Nat) (h : Int), i + d = xs.length → d < k → 0 ≤ h → h < 4294967296 →
 ∃ r : Int, F20.l0 k xs h i = some r ∧ F29.l0 k h xs (xs.length : Int) i = some r ∧ 0 ≤ r ∧ r < 4294967296 := by
 induction d with
 | zero =>
  intro k i h hi hk h0 h1
  obtain ⟨k, rfl⟩ : ∃ m, k = m + 1 := ⟨k - 1, by omega⟩
  refine ⟨h, ?_, ?_, h0, h1⟩
  ·rw [F20.l0, if_neg (by omega)]
  ·rw [F29.l0, if_neg (by omega), w64 (by omega) (by omega)]
 | succ d ih =>
  intro k i h hi hk h0 h1
  obtain ⟨k, rfl⟩ : ∃ m, k = m + 1 := ⟨k - 1, by omega⟩
  have hr := hb _ (rd_mem xs i (by omega))
  obtain ⟨c, hc0, hc1, e1, e2⟩ := xor32 h (rd xs i) h0 h1 hr.1 (by omega)
  have e : ((i : Int) + 1) = ((i + 1 : Nat) : Int) := by omega
  obtain ⟨r, hs, hi', hr0, hr1⟩ := ih k (i + 1) ((c * 16777619) % 4294967296) (by omega) (by omega) (by omega) (by omega)
  refine ⟨r, ?_, ?_, hr0, hr1⟩
  ·rw [F20.l0, if_pos (by omega), if_pos (by omega), w64 (x := rd xs i) (by omega) (by omega), e1, w64 (x := c * 16777619) (by omega) (by omega), w64 (by omega) (by omega), e,
    Int.tmod_eq_emod_of_nonneg (by omega)]
   exact hs
  ·rw [F29.l0, if_pos (by omega), if_pos (by omega), if_pos (by omega), Int.emod_eq_of_lt hr.1 (by omega), e2, w64 (by omega) (by omega), e]
   exact hi'


theorem sum_fun' (xs : List Int) (hn : xs.length ≤ 1048576) (d : Nat) : ∀ (k k' i : Nat) (h r r' : Int), i + d = xs.length → d < k → d < k' → F20.l0 k xs h (i : Int) = some r → F20.l0 k' xs h (i : Int) = some r' → r = r' := by
 induction d with
 | zero =>
  intro k k' i h r r' hi hk hk' e1 e2
  obtain ⟨k, rfl⟩ : ∃ m, k = m + 1 := ⟨k - 1, by omega⟩
  obtain ⟨k', rfl⟩ : ∃ m, k' = m + 1 := ⟨k' - 1, by omega⟩
  rw [F20.l0, if_neg (by omega)] at e1 e2
  exact Option.some.inj (e1.symm.trans e2)
 | succ d ih =>
  intro k k' i h r r' hi hk hk' e1 e2
  obtain ⟨k, rfl⟩ : ∃ m, k = m + 1 := ⟨k - 1, by omega⟩
  obtain ⟨k', rfl⟩ : ∃ m, k' = m + 1 := ⟨k' - 1, by omega⟩
  rw [F20.l0, if_pos (by omega), if_pos (by omega), wnD i (by omega)] at e1 e2
  exact ih k k' (i + 1) _ r r' (by omega) (by omega) (by omega) e1 e2
theorem sum_ev (xs : List Int) (hb : ∀ x ∈ xs, 0 ≤ x ∧ x ≤ 255) : ∃ r : Int, 0 ≤ r ∧ r < 4294967296 ∧ Ev (fun k => F20.f k xs) r ∧ Ev (fun k => F29.f k xs) r := by
 by_cases h : (xs.length : Int) > 1048576
 ·exact ⟨0, by omega, by omega, Ev.congr (fun k => by rw [F20.f, if_pos h]) (Ev.now _), Ev.congr (fun k => by rw [F29.f, if_pos h]) (Ev.now _)⟩
 ·have hz := fun k (hk : xs.length < k) => sum_both xs (by omega) hb xs.length k 0 2166136261 (by omega) hk (by omega) (by omega)
  obtain ⟨r, e1, e2, h0, h1⟩ := hz (xs.length + 1) (by omega)
  have hm : ∀ k, xs.length < k → F20.l0 k xs 2166136261 ((0 : Nat) : Int) = some r ∧ F29.l0 k 2166136261 xs (xs.length : Int) ((0 : Nat) : Int) = some r := by
   intro k hk
   obtain ⟨r', g1, g2, _⟩ := hz k hk
   obtain rfl := sum_fun' xs (by omega) xs.length k (xs.length + 1) 0 2166136261 r' r (by omega) hk (by omega) g1 e1
   exact ⟨g1, g2⟩
  refine ⟨r, h0, h1, Ev.from xs.length (fun k hk => ?_), Ev.from xs.length (fun k hk => ?_)⟩
  ·rw [F20.f, if_neg h]; exact (hm k hk).1
  ·rw [F29.f, if_neg h]; exact (hm k hk).2
def f4 (r : Int) : List Int := [r / 16777216 % 256, r / 65536 % 256, r / 256 % 256, r % 256]
theorem four_spec (r : Int) (h0 : 0 ≤ r) (h1 : r < 4294967296) : F35.f r = some (f4 r) := by
 unfold F35.f f4
 have d1 : wrap64 (r / 16777216) = r / 16777216 := w64 (by omega) (by omega)
 have d2 : wrap64 (r / 65536) = r / 65536 := w64 (by omega) (by omega)
 have d3 : wrap64 (r / 256) = r / 256 := w64 (by omega) (by omega)
 simp only [Int.tdiv_eq_ediv_of_nonneg h0]
 rw [d1, d2, d3, Int.tmod_eq_emod_of_nonneg (a := r / 65536) (by omega), Int.tmod_eq_emod_of_nonneg (a := r / 256) (by omega), Int.tmod_eq_emod_of_nonneg h0]
 have e1 : r / 65536 % 256 % 256 = r / 65536 % 256 := by omega
 have e2 : r / 256 % 256 % 256 = r / 256 % 256 := by omega
 have e3 : r % 256 % 256 = r % 256 := by omega
 rw [e1, e2, e3]
theorem four_impl (r : Int) : F48.f r = some (f4 r) := rfl
theorem pb_bytes (n : Int) (h0 : 0 ≤ n) (h1 : n ≤ 9000000000000000000) : ∀ x ∈ pb n, 0 ≤ x ∧ x ≤ 255 := vb_bytes 8 n h0 (by rw [pow128_8]; omega)
theorem bytesOf_bytes (t : ByteArray) : ∀ x ∈ bytesOf t, 0 ≤ x ∧ x ≤ 255 := by
 intro x hx
 unfold bytesOf at hx
 obtain ⟨b, _, rfl⟩ := List.mem_map.1 hx
 have := UInt8.toNat_lt b
 omega
theorem tb_bytes (t : ByteArray) (h : t.size ≤ 1000000000) : ∀ x ∈ tb t, 0 ≤ x ∧ x ≤ 255 := by
 intro x hx
 unfold tb at hx
 rcases List.mem_append.1 hx with hx | hx
 ·exact pb_bytes _ (by omega) (by omega) x hx
 ·exact bytesOf_bytes t x hx
theorem vbytes_bytes (v : S66) (h : valOK v = true) : ∀ x ∈ vbytes v, 0 ≤ x ∧ x ≤ 255 := by
 obtain ⟨g1, g2, g3, g4, g5⟩ := valOK_parts v h
 intro x hx
 unfold vbytes at hx
 rcases List.mem_append.1 hx with hx | hx
 ·exact tb_bytes _ (by omega) x hx
 rcases List.mem_append.1 hx with hx | hx
 ·exact pb_bytes _ (by omega) (by omega) x hx
 rcases List.mem_append.1 hx with hx | hx
 ·obtain ⟨t, ht, hx⟩ := List.mem_flatMap.1 hx
  exact tb_bytes t (by have := g4 t ht; omega) x hx
 rcases List.mem_append.1 hx with hx | hx
 ·exact pb_bytes _ (by omega) (by omega) x hx
 ·obtain ⟨n, hn, hx⟩ := List.mem_flatMap.1 hx
  have := nv_ok n (g5 n hn)
  exact pb_bytes _ this.1 (by omega) x hx
theorem dbytes_bytes (id : ByteArray) (l : List S66) (h : fits id l = true) : ∀ x ∈ dbytes id l, 0 ≤ x ∧ x ≤ 255 := by
 unfold fits at h
 rw [Bool.and_eq_true] at h
 obtain ⟨h1, h2⟩ := of_decide_eq_true h.1
 intro x hx
 unfold dbytes at hx
 rcases List.mem_append.1 hx with hx | hx
 ·exact tb_bytes _ (by omega) x hx
 rcases List.mem_append.1 hx with hx | hx
 ·exact pb_bytes _ (by omega) (by omega) x hx
 ·obtain ⟨v, hv, hx⟩ := List.mem_flatMap.1 hx
  exact vbytes_bytes v (List.all_eq_true.1 h.2 v hv) x hx
def chk (b : Int) : Bool := decide (33 ≤ b ∧ b ≤ 126)
def idOK (t : ByteArray) : Bool := (bytesOf t).all chk && decide (1 ≤ t.size ∧ t.size ≤ 30)
theorem bt_at (t : ByteArray) (i : Nat) (h : i < (bytesOf t).length) : bt t (i : Int) = (bytesOf t)[i] := by
 rw [← rd_bytesOf]; exact rd_lt _ i h
theorem id_spec (t : ByteArray) (hn : t.size ≤ 1048576) : Ev (fun k => F27.f k t) (idOK t) := by
 have hl := bytesOf_length t
 have key : ∀ d i, i + d = (bytesOf t).length → Ev (fun k => F27.l0 k t (i : Int)) (((bytesOf t).drop i).all chk && decide (1 ≤ t.size ∧ t.size ≤ 30)) := by
  intro d
  induction d with
  | zero =>
   intro i hi
   rw [List.drop_of_length_le (by omega)]
   refine Ev.step (fun k => by rw [F27.l0, if_neg (by omega)]) ?_
   rw [List.all_nil, Bool.true_and]
   by_cases c : (t.size : Int) ≥ 1
   ·refine Ev.pos c ?_
    have e : decide ((t.size : Int) ≤ 30) = decide (1 ≤ t.size ∧ t.size ≤ 30) := by rw [Bool.eq_iff_iff]; simp; omega
    rw [e]; exact Ev.now _
   ·rw [show decide (1 ≤ t.size ∧ t.size ≤ 30) = false from decide_eq_false (by omega)]; exact Ev.neg c (Ev.now _)
  | succ d ih =>
   intro i hi
   rw [drop_at _ i (by omega), List.all_cons]
   refine Ev.step (fun k => by rw [F27.l0, if_pos (by omega), if_pos (by omega), bt_at t i (by omega), wnD i (by omega)]) ?_
   generalize hb : (bytesOf t)[i]'(by omega) = b
   by_cases c1 : b < 33
   ·rw [show chk b = false from decide_eq_false (by omega), Bool.false_and, Bool.false_and]; exact Ev.pos c1 (Ev.now _)
   ·by_cases c2 : b > 126
    ·rw [show chk b = false from decide_eq_false (by omega), Bool.false_and, Bool.false_and]; exact Ev.neg c1 (Ev.pos c2 (Ev.now _))
    ·rw [show chk b = true from decide_eq_true (by omega), Bool.true_and]; exact Ev.neg c1 (Ev.neg c2 (ih (i + 1) (by omega)))
 have h := key (bytesOf t).length 0 (by omega)
 rw [List.drop_zero] at h
 exact h
theorem id_impl (t : ByteArray) (hn : t.size ≤ 1048576) : Ev (fun k => F16.f k t) (idOK t) := by
 have hl := bytesOf_length t
 have key : ∀ d i, i + d = (bytesOf t).length → Ev (fun k => F16.l0 k t (t.size : Int) (i : Int)) (((bytesOf t).drop i).all chk) := by
  intro d
  induction d with
  | zero =>
   intro i hi
   rw [List.drop_of_length_le (by omega)]
   exact Ev.step (f := fun _ => some true) (fun k => by rw [F16.l0, if_neg (by omega)]) (Ev.now _)
  | succ d ih =>
   intro i hi
   rw [drop_at _ i (by omega), List.all_cons]
   refine Ev.step (fun k => by rw [F16.l0, if_pos (by omega), if_pos (by omega), if_pos (by omega), bt_at t i (by omega), wnD i (by omega)]) ?_
   generalize hb : (bytesOf t)[i]'(by omega) = b
   by_cases c1 : b < 33
   ·rw [show chk b = false from decide_eq_false (by omega), Bool.false_and]; exact Ev.pos c1 (Ev.now _)
   ·by_cases c2 : b > 126
    ·rw [show chk b = false from decide_eq_false (by omega), Bool.false_and]; exact Ev.neg c1 (Ev.pos c2 (Ev.now _))
    ·rw [show chk b = true from decide_eq_true (by omega), Bool.true_and]; exact Ev.neg c1 (Ev.neg c2 (ih (i + 1) (by omega)))
 unfold F16.f idOK
 by_cases c1 : (t.size : Int) < 1
 ·rw [show decide (1 ≤ t.size ∧ t.size ≤ 30) = false from decide_eq_false (by omega), Bool.and_false]
  exact Ev.pos c1 (Ev.step (fun k => by rw [F16.j0]) (Ev.pos rfl (Ev.now _)))
 ·by_cases c2 : (t.size : Int) > 30
  ·rw [show decide (1 ≤ t.size ∧ t.size ≤ 30) = false from decide_eq_false (by omega), Bool.and_false, decide_eq_true c2]
   exact Ev.neg c1 (Ev.step (fun k => by rw [F16.j0]) (Ev.pos rfl (Ev.now _)))
  ·rw [show decide (1 ≤ t.size ∧ t.size ≤ 30) = true from decide_eq_true (by omega), Bool.and_true, decide_eq_false c2]
   have h := key (bytesOf t).length 0 (by omega)
   rw [List.drop_zero, n0] at h
   exact Ev.neg c1 (Ev.step (fun k => by rw [F16.j0]) (Ev.neg Bool.false_ne_true h))
theorem putInt_ev (n : Int) (h0 : 0 ≤ n) (h1 : n ≤ 4611686018427387903) : Ev (fun k => F42.f k n) (pb n, 0) := by
 unfold F42.f
 refine Ev.bind (Ev.ofEq (r := true) (by unfold F40.f; rw [if_pos h0, decide_eq_true h1])) ?_
 refine Ev.pos rfl ?_
 have h := putI_ev [] n (by simp) h0 (by omega)
 rw [List.nil_append] at h
 exact Ev.bind h (Ev.now _)
def outR (all : List Int) : List Int × Int := if (all.length : Int) > 1048576 then ([], 2) else (all, 0)
theorem tail_both (part : List Int) (hb : ∀ x ∈ part, 0 ≤ x ∧ x ≤ 255) (hl : part.length ≤ 3000000000000) : ∃ all : List Int, ((∃ t : List Int, t.length = 4 ∧ all = pb (part.length : Int) ++ part ++ t) ∧ ∀ x ∈ all, 0 ≤ x ∧ x ≤ 255) ∧
 Ev (fun k => (F13.f k (part.length : Int)).bind fun t218 => (if t218.length + part.length < 140737488355328 then ((some (t218 ++ part : List Int)).bind fun y221 => ((F20.f k part).bind fun t224 => ((F35.f t224).bind fun t225 => (if y221.length + t225.length < 140737488355328 then (some (y221 ++ t225)) else (none))))) else (none))) all ∧
 Ev (fun k => F4.j1 k part) (outR all) := by
 obtain ⟨r, h0, h1, hs, hi⟩ := sum_ev part hb
 have hp := pb_len (part.length : Int)
 have e4 : (f4 r).length = 4 := rfl
 have ea : (pb (part.length : Int) ++ part ++ f4 r).length = (pb (part.length : Int)).length + part.length + 4 := by simp only [List.length_append, e4]
 refine ⟨pb (part.length : Int) ++ part ++ f4 r, ⟨⟨f4 r, rfl, rfl⟩, fun x hx => ?_⟩, ?_, ?_⟩
 ·rcases List.mem_append.1 hx with hx | hx
  ·rcases List.mem_append.1 hx with hx | hx
   ·exact pb_bytes _ (by omega) (by omega) x hx
   ·exact hb x hx
  ·unfold f4 at hx
   simp only [List.mem_cons, List.not_mem_nil, or_false] at hx
   omega
 ·refine Ev.bind (putS_ev _ (by omega) (by omega)) (Ev.pos (by omega) ?_)
  refine Ev.bind (Ev.now _) (Ev.bind hs (Ev.bind (Ev.ofEq (four_spec r h0 h1)) (Ev.pos (by rw [List.length_append, e4]; omega) (Ev.now _))))
 ·refine Ev.step (fun k => by rw [F4.j1]) ?_
  refine Ev.bind (putInt_ev _ (by omega) (by omega)) ?_
  have w1 : wrap64 (((pb (part.length : Int)).length : Int) + (part.length : Int)) = ((pb (part.length : Int)).length : Int) + (part.length : Int) := w64 (by omega) (by omega)
  have w2 : wrap64 (((pb (part.length : Int)).length : Int) + (part.length : Int) + 4) = ((pb (part.length : Int)).length : Int) + (part.length : Int) + 4 := w64 (by omega) (by omega)
  simp only
  rw [w1, w2]
  by_cases c : ((pb (part.length : Int)).length : Int) + (part.length : Int) + 4 > 1048576
  ·rw [show outR (pb (part.length : Int) ++ part ++ f4 r) = ([], 2) from if_pos (by omega)]; exact Ev.pos c (Ev.now _)
  ·rw [show outR (pb (part.length : Int) ++ part ++ f4 r) = (_, 0) from if_neg (by omega)]
   refine Ev.neg c (Ev.pos (by omega) ?_)
   exact Ev.bind (Ev.now _) (Ev.bind hi (Ev.bind (Ev.ofEq (four_impl r)) (Ev.pos (by rw [List.length_append, e4]; omega) (Ev.now _))))
def eD (id : ByteArray) (l : List S66) : Bool := if id.toList = [] then ((l.length : Int) == 0) else false
theorem eD_spec (id : ByteArray) (l : List S66) : F44.f id l = some (eD id l) := by
 unfold F44.f eD
 split <;> rfl
theorem eD_impl (id : ByteArray) (l : List S66) : F43.f id l = some (eD id l) := by
 unfold F43.f eD
 split <;> rfl
theorem eD_parts (id : ByteArray) (l : List S66) (h : eD id l = true) : id.toList = [] ∧ l = [] := by
 unfold eD at h
 by_cases c : id.toList = []
 ·rw [if_pos c] at h
  have h2 : (l.length : Int) = 0 := by simpa using h
  exact ⟨c, List.length_eq_zero_iff.1 (by omega)⟩
 ·rw [if_neg c] at h; cases h
def Shp (kind seq : Int) (id did : ByteArray) (l : List S66) (part : List Int) : Prop :=
 1 ≤ seq ∧ seq ≤ 4611686018427387903 ∧ ((kind = 1 ∧ part = ([kind % 256] ++ pb seq) ++ dbytes did l ∧ fits did l = true ∧ id.toList = ([] : List UInt8)) ∨ (kind = 2 ∧ part = ([kind % 256] ++ pb seq) ++ bytesOf id ∧ did.toList = [] ∧ l = []))
theorem rec_shape (kind seq : Int) (id did : ByteArray) (l : List S66) (hi : id.size ≤ 1048576) (hdi : did.size ≤ 1048576) (hn : l.length ≤ 1048576) (hv : ∀ v ∈ l, okV v) : ∃ ok : Bool, Ev (fun k => F14.f k kind seq id did l) ok ∧
 ((ok = false ∧ Ev (fun k => F4.f k kind seq id did l) (([] : List Int), (1 : Int))) ∨
  (ok = true ∧ (kind = 1 ∨ kind = 2) ∧ ∃ part all : List Int, part.length ≤ 3000000000000 ∧ Shp kind seq id did l part ∧ ((∃ t : List Int, t.length = 4 ∧ all = pb (part.length : Int) ++ part ++ t) ∧ ∀ x ∈ all, 0 ≤ x ∧ x ≤ 255) ∧ Ev (fun k => F24.f k kind seq id did l) all ∧ Ev (fun k => F4.f k kind seq id did l) (outR all))) := by
 by_cases s1 : seq < 1
 ·refine ⟨false, ?_, .inl ⟨rfl, ?_⟩⟩
  ·exact Ev.congr (fun k => by rw [F14.f]) (Ev.pos s1 (Ev.step (fun k => by rw [F14.j0]) (Ev.pos rfl (Ev.now _))))
  ·exact Ev.congr (fun k => by rw [F4.f]) (Ev.pos s1 (Ev.step (fun k => by rw [F4.j0]) (Ev.pos rfl (Ev.now _))))
 ·by_cases s2 : seq > 4611686018427387903
  ·refine ⟨false, ?_, .inl ⟨rfl, ?_⟩⟩
   ·exact Ev.congr (fun k => by rw [F14.f, decide_eq_true s2]) (Ev.neg s1 (Ev.step (fun k => by rw [F14.j0]) (Ev.pos rfl (Ev.now _))))
   ·exact Ev.congr (fun k => by rw [F4.f, decide_eq_true s2]) (Ev.neg s1 (Ev.step (fun k => by rw [F4.j0]) (Ev.pos rfl (Ev.now _))))
  ·have spOK : ∀ b : Bool, Ev (fun k => if kind = 1 then (if id.toList = ([] : List UInt8) then ((F27.f k did).bind fun t123 => (if t123 = true then ((F7.f k did l).bind fun t124 => (some t124)) else (some false))) else (some false)) else (if kind = 2 then ((F27.f k id).bind fun t125 => (if t125 = true then ((F44.f did l).bind fun t126 => (some t126)) else (some false))) else (some false))) b → Ev (fun k => F14.f k kind seq id did l) b := fun b h =>
    Ev.congr (fun k => by rw [F14.f, decide_eq_false s2]) (Ev.neg s1 (Ev.step (fun k => by rw [F14.j0]) (Ev.neg Bool.false_ne_true h)))
   have hp := pb_len seq
   have imOK : ∀ q : List Int × Int, Ev (fun k => if kind = 1 then ((F0.f k did l).bind fun bt368 => (if bt368.2 = 0 then ((F16.f k did).bind fun t372 => (if t372 = true then (if id.toList = ([] : List UInt8) then (if ([kind % 256] ++ pb seq).length + bt368.1.length < 140737488355328 then (F4.j1 k (([kind % 256] ++ pb seq) ++ bt368.1)) else (none)) else (some (([] : List Int), 1))) else (some (([] : List Int), 1)))) else (some (([] : List Int), 1)))) else (if kind = 2 then ((F16.f k id).bind fun t376 => (if t376 = true then ((F43.f did l).bind fun t377 => (if t377 = true then (if ([kind % 256] ++ pb seq).length + id.size < 140737488355328 then (F4.j1 k (([kind % 256] ++ pb seq) ++ bytesOf id)) else (none)) else (some (([] : List Int), 1)))) else (some (([] : List Int), 1)))) else (some (([] : List Int), 1)))) q → Ev (fun k => F4.f k kind seq id did l) q := fun q h => by
    refine Ev.congr (fun k => by rw [F4.f, decide_eq_false s2]) (Ev.neg s1 (Ev.step (fun k => by rw [F4.j0]) (Ev.neg Bool.false_ne_true ?_)))
    refine Ev.bind (putInt_ev seq (by omega) (by omega)) (Ev.bind (Ev.now _) (Ev.pos (by simp only [List.length_cons, List.length_nil]; omega) ?_))
    exact Ev.bind (Ev.now _) h
   have hf := fits_ev did l hn hv
   have hd := impl_DocBytes_ev did l hn hv
   have is1 := id_spec did hdi
   have ii1 := id_impl did hdi
   have is2 := id_spec id hi
   have ii2 := id_impl id hi
   have hpb := pb_bytes seq (by omega) (by omega)
   have hhead : ∀ x ∈ ([kind % 256] ++ pb seq), 0 ≤ x ∧ x ≤ 255 := fun x hx => by
    rcases List.mem_append.1 hx with hx | hx
    ·simp only [List.mem_cons, List.not_mem_nil, or_false] at hx; omega
    ·exact hpb x hx
   have no : Ev (fun k => F14.f k kind seq id did l) false → Ev (fun k => F4.f k kind seq id did l) (([] : List Int), (1 : Int)) → ∃ ok : Bool, Ev (fun k => F14.f k kind seq id did l) ok ∧
    ((ok = false ∧ Ev (fun k => F4.f k kind seq id did l) (([] : List Int), (1 : Int))) ∨
     (ok = true ∧ (kind = 1 ∨ kind = 2) ∧ ∃ part all : List Int, part.length ≤ 3000000000000 ∧ Shp kind seq id did l part ∧ ((∃ t : List Int, t.length = 4 ∧ all = pb (part.length : Int) ++ part ++ t) ∧ ∀ x ∈ all, 0 ≤ x ∧ x ≤ 255) ∧ Ev (fun k => F24.f k kind seq id did l) all ∧ Ev (fun k => F4.f k kind seq id did l) (outR all))) := fun h1 h2 => ⟨false, h1, .inl ⟨rfl, h2⟩⟩
   have yes : ∀ part all, (kind = 1 ∨ kind = 2) → part.length ≤ 3000000000000 → Shp kind seq id did l part → ((∃ t : List Int, t.length = 4 ∧ all = pb (part.length : Int) ++ part ++ t) ∧ ∀ x ∈ all, 0 ≤ x ∧ x ≤ 255) → Ev (fun k => F14.f k kind seq id did l) true → Ev (fun k => F24.f k kind seq id did l) all → Ev (fun k => F4.j1 k part) (outR all) → Ev (fun k => F4.f k kind seq id did l) (outR all) → ∃ ok : Bool, Ev (fun k => F14.f k kind seq id did l) ok ∧
    ((ok = false ∧ Ev (fun k => F4.f k kind seq id did l) (([] : List Int), (1 : Int))) ∨
     (ok = true ∧ (kind = 1 ∨ kind = 2) ∧ ∃ part all : List Int, part.length ≤ 3000000000000 ∧ Shp kind seq id did l part ∧ ((∃ t : List Int, t.length = 4 ∧ all = pb (part.length : Int) ++ part ++ t) ∧ ∀ x ∈ all, 0 ≤ x ∧ x ≤ 255) ∧ Ev (fun k => F24.f k kind seq id did l) all ∧ Ev (fun k => F4.f k kind seq id did l) (outR all))) := fun part all hk hl hz hs h1 h2 h3 h4 => ⟨true, h1, .inr ⟨rfl, hk, part, all, hl, hz, hs, h2, h4⟩⟩
   have spB : ∀ part all, (kind = 1 → part = ([kind % 256] ++ pb seq) ++ dbytes did l ∧ fits did l = true) → (kind ≠ 1 → part = ([kind % 256] ++ pb seq) ++ bytesOf id) →
    Ev (fun k => (F13.f k (part.length : Int)).bind fun t218 => (if t218.length + part.length < 140737488355328 then ((some (t218 ++ part : List Int)).bind fun y221 => ((F20.f k part).bind fun t224 => ((F35.f t224).bind fun t225 => (if y221.length + t225.length < 140737488355328 then (some (y221 ++ t225)) else (none))))) else (none))) all → Ev (fun k => F24.f k kind seq id did l) all := fun part all k1 k2 h => by
    unfold F24.f
    refine Ev.bind (Ev.now _) (Ev.bind (putS_ev seq (by omega) (by omega)) (Ev.pos (by simp only [List.length_cons, List.length_nil]; omega) (Ev.bind (Ev.now _) ?_)))
    by_cases c : kind = 1
    ·obtain ⟨rfl, hfit⟩ := k1 c
     have hdl := dbytes_len did l hfit
     refine Ev.pos c (Ev.bind (bytes_ev did l hfit) (Ev.pos (by simp only [List.length_append, List.length_cons, List.length_nil]; omega) (Ev.bind (Ev.now _) h)))
    ·obtain rfl := k2 c
     exact Ev.neg c (Ev.pos (by simp only [List.length_append, List.length_cons, List.length_nil]; omega) (Ev.bind (Ev.now _) h))
   by_cases c1 : kind = 1
   ·by_cases f1 : fits did l = true
    ·have e1 : docTell did l = (dbytes did l, 0) := by unfold docTell; rw [if_pos f1]
     rw [e1] at hd
     rw [f1] at hf
     have hdl := dbytes_len did l f1
     by_cases f2 : idOK did = true
     ·rw [f2] at is1 ii1
      by_cases f3 : id.toList = ([] : List UInt8)
      ·obtain ⟨all, g0, g1, g2⟩ := tail_both (([kind % 256] ++ pb seq) ++ dbytes did l) (fun x hx => by
        rcases List.mem_append.1 hx with hx | hx
        ·exact hhead x hx
        ·exact dbytes_bytes did l f1 x hx) (by simp only [List.length_append, List.length_cons, List.length_nil]; omega)
       refine yes _ all (.inl c1) (by simp only [List.length_append, List.length_cons, List.length_nil]; omega) ⟨by omega, by omega, .inl ⟨c1, rfl, f1, f3⟩⟩ g0 (spOK true (Ev.pos c1 (Ev.pos f3 (Ev.bind is1 (Ev.pos rfl (Ev.bind hf (Ev.now _))))))) (spB _ all (fun _ => ⟨rfl, f1⟩) (fun h => absurd c1 h) g1) g2 (imOK _ ?_)
       exact Ev.pos c1 (Ev.bind hd (Ev.pos rfl (Ev.bind ii1 (Ev.pos rfl (Ev.pos f3 (Ev.pos (by simp only [List.length_append, List.length_cons, List.length_nil]; omega) g2))))))
      ·exact no (spOK false (Ev.pos c1 (Ev.neg f3 (Ev.now _)))) (imOK _ (Ev.pos c1 (Ev.bind hd (Ev.pos rfl (Ev.bind ii1 (Ev.pos rfl (Ev.neg f3 (Ev.now _))))))))
     ·have f2' := Bool.eq_false_iff.2 f2
      rw [f2'] at is1 ii1
      refine no (spOK false (Ev.pos c1 ?_)) (imOK _ (Ev.pos c1 (Ev.bind hd (Ev.pos rfl (Ev.bind ii1 (Ev.neg Bool.false_ne_true (Ev.now _)))))))
      by_cases f3 : id.toList = ([] : List UInt8)
      ·exact Ev.pos f3 (Ev.bind is1 (Ev.neg Bool.false_ne_true (Ev.now _)))
      ·exact Ev.neg f3 (Ev.now _)
    ·have f1' := Bool.eq_false_iff.2 f1
     have e1 : docTell did l = ([], 12) := by unfold docTell; rw [if_neg f1]
     rw [e1] at hd
     rw [f1'] at hf
     refine no (spOK false (Ev.pos c1 ?_)) (imOK _ (Ev.pos c1 (Ev.bind hd (Ev.neg (by decide) (Ev.now _)))))
     by_cases f3 : id.toList = ([] : List UInt8)
     ·refine Ev.pos f3 (Ev.bind is1 ?_)
      by_cases f2 : idOK did = true
      ·exact Ev.pos f2 (Ev.bind hf (Ev.now _))
      ·exact Ev.neg f2 (Ev.now _)
     ·exact Ev.neg f3 (Ev.now _)
   ·by_cases c2 : kind = 2
    ·by_cases f2 : idOK id = true
     ·rw [f2] at is2 ii2
      by_cases f3 : eD did l = true
      ·obtain ⟨all, g0, g1, g2⟩ := tail_both (([kind % 256] ++ pb seq) ++ bytesOf id) (fun x hx => by
        rcases List.mem_append.1 hx with hx | hx
        ·exact hhead x hx
        ·exact bytesOf_bytes id x hx) (by have := bytesOf_length id; simp only [List.length_append, List.length_cons, List.length_nil]; omega)
       refine yes _ all (.inr c2) (by have := bytesOf_length id; simp only [List.length_append, List.length_cons, List.length_nil]; omega) ⟨by omega, by omega, .inr ⟨c2, rfl, eD_parts did l f3⟩⟩ g0 (spOK true (Ev.neg c1 (Ev.pos c2 (Ev.bind is2 (Ev.pos rfl (Ev.bind (Ev.ofEq (eD_spec did l)) (by rw [f3]; exact Ev.now _))))))) (spB _ all (fun h => absurd h c1) (fun _ => rfl) g1) g2 (imOK _ ?_)
       exact Ev.neg c1 (Ev.pos c2 (Ev.bind ii2 (Ev.pos rfl (Ev.bind (Ev.ofEq (eD_impl did l)) (Ev.pos f3 (Ev.pos (by simp only [List.length_append, List.length_cons, List.length_nil]; omega) g2))))))
      ·have f3' := Bool.eq_false_iff.2 f3
       exact no (spOK false (Ev.neg c1 (Ev.pos c2 (Ev.bind is2 (Ev.pos rfl (Ev.bind (Ev.ofEq (eD_spec did l)) (by rw [f3']; exact Ev.now _))))))) (imOK _ (Ev.neg c1 (Ev.pos c2 (Ev.bind ii2 (Ev.pos rfl (Ev.bind (Ev.ofEq (eD_impl did l)) (Ev.neg f3 (Ev.now _))))))))
     ·have f2' := Bool.eq_false_iff.2 f2
      rw [f2'] at is2 ii2
      exact no (spOK false (Ev.neg c1 (Ev.pos c2 (Ev.bind is2 (Ev.neg Bool.false_ne_true (Ev.now _)))))) (imOK _ (Ev.neg c1 (Ev.pos c2 (Ev.bind ii2 (Ev.neg Bool.false_ne_true (Ev.now _))))))
    ·exact no (spOK false (Ev.neg c1 (Ev.neg c2 (Ev.now _)))) (imOK _ (Ev.neg c1 (Ev.neg c2 (Ev.now _))))
section
variable {b : List Int} (hl : b.length ≤ 1048576) (hb : ∀ x ∈ b, 0 ≤ x ∧ x ≤ 255)
include hl hb
end

section
variable {b : List Int} (hl : b.length ≤ 1048576) (hb : ∀ x ∈ b, 0 ≤ x ∧ x ≤ 255)
include hl hb
end
theorem str_back (s : ByteArray) : strOfNums (bytesOf s) = s := by
 obtain ⟨⟨l⟩⟩ := s
 unfold strOfNums bytesOf
 congr 2
 simp only [List.map_map]
 rw [List.map_congr_left (g := id)]
 ·simp
 ·intro x _
  simp
theorem num_back (n : Int) (h : numOK n = true) : numOf (nv n) = n := by
 have h1 := of_decide_eq_true h
 unfold numOf nv
 by_cases c : n < 0
 ·rw [if_pos c]
  have e : Int.tmod (-2 * n - 1) 2 = 1 := by rw [Int.tmod_eq_emod_of_nonneg (by omega)]; omega
  rw [if_pos e, show wrap64 (-2 * n - 1 + 1) = -2 * n - 1 + 1 from w64 (by omega) (by omega), show wrap64 (-(-2 * n - 1 + 1)) = -(-2 * n - 1 + 1) from w64 (by omega) (by omega)]
  have e2 : Int.tdiv (-(-2 * n - 1 + 1)) 2 = n := by
   rw [show (-(-2 * n - 1 + 1) : Int) = n * 2 by omega, Int.mul_tdiv_cancel _ (by decide)]
  rw [e2, w64 (by omega) (by omega)]
 ·rw [if_neg c]
  have e : ¬ Int.tmod (2 * n) 2 = 1 := by rw [Int.tmod_eq_emod_of_nonneg (by omega)]; omega
  rw [if_neg e, Int.mul_comm, Int.mul_tdiv_cancel _ (by decide), w64 (by omega) (by omega)]
section
variable {b : List Int} {num : Nat → Option (Int × Nat)} (hl : b.length ≤ 1048576) (hnum : ∀ n, n ≤ b.length → Told b n (num n))
include hl hnum
theorem num_at {n : Nat} (hn : n ≤ b.length) {a : Int} {t : List Int} (hd : b.drop n = pb a ++ t) (ha : okNum a) : num n = some (a, n + (pb a).length) := by
 have hg := get_vb b n hl hn a t hd ha
 have hT := hnum n hn
 cases h : num n with
 | none =>
  rw [h] at hT
  have := Ev_uniq hT.2 hg
  simp only [Prod.mk.injEq] at this
  omega
 | some p =>
  obtain ⟨v, m⟩ := p
  rw [h] at hT
  have := Ev_uniq hT.2.2.2.2.2 hg
  simp only [Prod.mk.injEq] at this
  obtain ⟨rfl, h2, _⟩ := this
  have e2 : (pb v).length = (vb 8 v).length := rfl
  rw [show m = n + (pb v).length by omega]
omit hl hnum in
theorem drop_len {n : Nat} {x u : List Int} (hd : b.drop n = x ++ u) (hn : n ≤ b.length) : n + x.length ≤ b.length ∧ b.drop (n + x.length) = u := by
 constructor
 ·have := congrArg List.length hd
  rw [List.length_drop, List.length_append] at this
  omega
 ·rw [← List.drop_drop, hd, List.drop_left]
theorem rtext_at {n : Nat} (hn : n ≤ b.length) {t : ByteArray} {u : List Int} (ht : t.size ≤ 65536) (hd : b.drop n = tb t ++ u) : rtext b num n = some (t, n + (tb t).length) := by
 unfold tb at hd ⊢
 rw [List.append_assoc] at hd
 have h1 := num_at hl hnum hn hd ⟨by omega, by omega⟩
 obtain ⟨l1, d1⟩ := drop_len hd hn
 obtain ⟨l2, _⟩ := drop_len d1 l1
 rw [bytesOf_length] at l2
 unfold rtext
 rw [h1]
 simp only
 rw [if_neg (by omega), Int.toNat_natCast]
 have e : (b.take (n + (pb (t.size : Int)).length + t.size)).drop (n + (pb (t.size : Int)).length) = bytesOf t := by
  rw [List.drop_take, d1, Nat.add_sub_cancel_left]
  have := bytesOf_length t
  rw [← this, List.take_left]
 rw [e, str_back, List.length_append, bytesOf_length, Nat.add_assoc]
theorem rcount_at {n : Nat} (hn : n ≤ b.length) {c : Nat} {u : List Int} (hc : c ≤ 4096) (hd : b.drop n = pb (c : Int) ++ u) : rcount num n = some (c, n + (pb (c : Int)).length) := by
 have h1 := num_at hl hnum hn hd ⟨by omega, by omega⟩
 unfold rcount
 rw [h1]
 simp only
 rw [if_neg (by omega), Int.toNat_natCast]
theorem rnumber_at {n : Nat} (hn : n ≤ b.length) {c : Int} {u : List Int} (hc : numOK c = true) (hd : b.drop n = nb c ++ u) : rnumber num n = some (c, n + (nb c).length) := by
 have h0 := nv_ok c hc
 have h1 := num_at hl hnum hn hd ⟨by omega, by omega⟩
 unfold rnumber
 rw [h1]
 simp only
 rw [if_neg (by omega), num_back c hc]
 rfl
theorem rtexts_at : ∀ (ts : List ByteArray) (n : Nat) (acc : List ByteArray) (u : List Int), n ≤ b.length → (∀ t ∈ ts, t.size ≤ 65536) → b.drop n = ts.flatMap tb ++ u → rtexts b num ts.length n acc = some (acc ++ ts, n + (ts.flatMap tb).length)
 | [], n, acc, u, _, _, _ => by simp [rtexts]
 | t :: ts, n, acc, u, hn, ht, hd => by
  rw [List.flatMap_cons, List.append_assoc] at hd
  have h1 := rtext_at hl hnum hn (ht t (List.mem_cons_self ..)) hd
  obtain ⟨l1, d1⟩ := drop_len hd hn
  have h2 := rtexts_at ts (n + (tb t).length) (acc ++ [t]) u l1 (fun x hx => ht x (List.mem_cons_of_mem _ hx)) d1
  rw [List.length_cons, rtexts, h1, Option.bind_some, h2, List.flatMap_cons, List.length_append, List.append_assoc, Nat.add_assoc]
  rfl
theorem rnums_at : ∀ (ns : List Int) (n : Nat) (acc : List Int) (u : List Int), n ≤ b.length → (∀ t ∈ ns, numOK t = true) → b.drop n = ns.flatMap nb ++ u → rnums num ns.length n acc = some (acc ++ ns, n + (ns.flatMap nb).length)
 | [], n, acc, u, _, _, _ => by simp [rnums]
 | t :: ts, n, acc, u, hn, ht, hd => by
  rw [List.flatMap_cons, List.append_assoc] at hd
  have h1 := rnumber_at hl hnum hn (ht t (List.mem_cons_self ..)) hd
  obtain ⟨l1, d1⟩ := drop_len hd hn
  have h2 := rnums_at ts (n + (nb t).length) (acc ++ [t]) u l1 (fun x hx => ht x (List.mem_cons_of_mem _ hx)) d1
  rw [List.length_cons, rnums, h1, Option.bind_some, h2, List.flatMap_cons, List.length_append, List.append_assoc, Nat.add_assoc]
  rfl
theorem rval_at {n : Nat} (hn : n ≤ b.length) {v : S66} {u : List Int} (hv : valOK v = true) (hd : b.drop n = vbytes v ++ u) : rval b num n = some (v, n + (vbytes v).length) := by
 obtain ⟨g1, g2, g3, g4, g5⟩ := valOK_parts v hv
 unfold vbytes at hd ⊢
 simp only [List.append_assoc] at hd
 have h1 := rtext_at hl hnum hn g1 hd
 obtain ⟨l1, d1⟩ := drop_len hd hn
 have h2 := rcount_at hl hnum l1 g2 d1
 obtain ⟨l2, d2⟩ := drop_len d1 l1
 have h3 := rtexts_at hl hnum v.f1 _ [] _ l2 g4 d2
 obtain ⟨l3, d3⟩ := drop_len d2 l2
 have h4 := rcount_at hl hnum l3 g3 d3
 obtain ⟨l4, d4⟩ := drop_len d3 l3
 have h5 := rnums_at hl hnum v.f2 _ [] _ l4 g5 d4
 unfold rval
 rw [h1, Option.bind_some, h2, Option.bind_some, h3, Option.bind_some, h4, Option.bind_some, h5, Option.bind_some]
 simp only [List.nil_append, List.length_append, Nat.add_assoc]
theorem rvals_at : ∀ (vs : List S66) (n : Nat) (acc : List S66) (u : List Int), n ≤ b.length → (∀ v ∈ vs, valOK v = true) → b.drop n = vs.flatMap vbytes ++ u → rvals b num vs.length n acc = some (acc ++ vs, n + (vs.flatMap vbytes).length)
 | [], n, acc, u, _, _, _ => by simp [rvals]
 | t :: ts, n, acc, u, hn, ht, hd => by
  rw [List.flatMap_cons, List.append_assoc] at hd
  have h1 := rval_at hl hnum hn (ht t (List.mem_cons_self ..)) hd
  obtain ⟨l1, d1⟩ := drop_len hd hn
  have h2 := rvals_at ts (n + (vbytes t).length) (acc ++ [t]) u l1 (fun x hx => ht x (List.mem_cons_of_mem _ hx)) d1
  rw [List.length_cons, rvals, h1, Option.bind_some, h2, List.flatMap_cons, List.length_append, List.append_assoc, Nat.add_assoc]
  rfl
theorem rdoc_at {id : ByteArray} {l : List S66} (hf : fits id l = true) (hd : b = dbytes id l) : rdoc b num = some (id, l, b.length) := by
 have hf2 := hf
 unfold fits at hf2
 rw [Bool.and_eq_true] at hf2
 obtain ⟨k1, k2⟩ := hf2
 obtain ⟨k3, k4⟩ := of_decide_eq_true k1
 have kv : ∀ v ∈ l, valOK v = true := fun v hv => List.all_eq_true.1 k2 v hv
 have hd0 : b.drop 0 = tb id ++ (pb (l.length : Int) ++ (l.flatMap vbytes ++ [])) := by rw [List.drop_zero, List.append_nil]; exact hd
 have h1 := rtext_at hl hnum (Nat.zero_le _) k3 hd0
 obtain ⟨l1, d1⟩ := drop_len hd0 (Nat.zero_le _)
 have h2 := rcount_at hl hnum l1 k4 d1
 obtain ⟨l2, d2⟩ := drop_len d1 l1
 have h3 := rvals_at hl hnum l _ [] _ l2 kv d2
 have hlen : b.length = 0 + (tb id).length + (pb (l.length : Int)).length + (l.flatMap vbytes).length := by
  rw [hd]; unfold dbytes; rw [List.length_append, List.length_append]; omega
 unfold rdoc
 rw [h1, Option.bind_some, h2, Option.bind_some, h3, Option.bind_some, List.nil_append, hlen]
end
theorem read_back (id : ByteArray) (l : List S66) (hf : fits id l = true) (hl : (dbytes id l).length ≤ 1048576) : Ev (fun k => F41.f k (dbytes id l)) (id, l, 0) := by
 obtain ⟨num, hnum⟩ := told_ex (dbytes id l) hl (dbytes_bytes id l hf)
 obtain ⟨r2, g2, e2⟩ := idoc_good hl hnum
 rw [rdoc_at hl hnum hf rfl] at g2
 obtain rfl : r2 = (id, l, ((dbytes id l).length : Int), false) := g2
 unfold F41.f
 exact Ev.neg (by omega) (Ev.bind e2 (Ev.neg Bool.false_ne_true (Ev.pos rfl (Ev.now _))))

theorem empty_of (s : ByteArray) (h : s.toList = ([] : List UInt8)) : s = ⟨#[]⟩ := by
 rw [Lib.toList_data] at h
 obtain ⟨⟨l⟩⟩ := s
 simp only at h
 rw [h]
theorem wsub (a b : Nat) (ha : a ≤ 1048576) (hb : b ≤ 9) : wrap64 ((a : Int) - (b : Int)) = (a : Int) - (b : Int) ∧ wrap64 ((a : Int) - (b : Int) - 4) = (a : Int) - (b : Int) - 4 := ⟨w64 (by omega) (by omega), w64 (by omega) (by omega)⟩
theorem wsum (a b : Nat) (ha : a ≤ 9) (hb : b ≤ 1048576) : wrap64 ((a : Int) + (b : Int)) = ((a + b : Nat) : Int) := by rw [w64 (by omega) (by omega)]; omega
theorem gt_no (p x m r : Nat) (h : x = m + p + 4 + r) : decide ((p : Int) > (x : Int) - (m : Int) - 4) = false := decide_eq_false (by omega)
theorem j1_back (X all : List Int) (K q : Int) (id did : ByteArray) (l : List S66) (rest : List Int) (hX : X = all ++ rest) (hr : Ev (fun k => F4.f k K q id did l) (all, 0)) :
 Ev (fun k => F11.j1 k X K q id did l) (K, q, id, did, l, (all.length : Int)) := by
 have hlen : X.length = all.length + rest.length := by rw [hX, List.length_append]
 have c1 : ¬ (all.length : Int) > (X.length : Int) := by omega
 have c2 : (0 : Int) ≤ (all.length : Int) := by omega
 have c3 : (all.length : Int) ≤ (X.length : Int) := by omega
 refine Ev.step (fun k => by rw [F11.j1]) (Ev.bind hr (Ev.pos rfl (Ev.neg c1 ?_)))
 refine Ev.pos c2 ?_
 refine Ev.pos c3 ?_
 dsimp only
 unfold F47.f
 rw [Int.toNat_natCast, hX, List.take_left]
 exact Ev.bind (Ev.now _) (Ev.pos (beq_iff_eq.2 rfl) (Ev.now _))
theorem rec_back (K q : Int) (id did : ByteArray) (l : List S66) (all rest : List Int) (hi : id.size ≤ 1048576) (hdi : did.size ≤ 1048576) (hn : l.length ≤ 1048576) (hv : ∀ v ∈ l, okV v)
 (hr : Ev (fun k => F4.f k K q id did l) (all, 0)) (hl : (all ++ rest).length ≤ 1048576) : 1 ≤ all.length ∧ (∀ x ∈ all, 0 ≤ x ∧ x ≤ 255) ∧ Ev (fun k => F11.f k (all ++ rest)) (K, q, id, did, l, (all.length : Int)) := by
 obtain ⟨ok, _, h⟩ := rec_shape K q id did l hi hdi hn hv
 rcases h with ⟨_, hbad⟩ | ⟨_, hk, part, all', hpl, ⟨q1, q2, hsh⟩, ⟨⟨t, ht, hall⟩, hab⟩, _, hr'⟩
 ·have := Ev_uniq hr hbad
  simp only [Prod.mk.injEq] at this
  omega
 ·have hu := Ev_uniq hr hr'
  have c0 : ¬ (all'.length : Int) > 1048576 := fun c => by
   rw [show outR all' = ([], 2) from if_pos c] at hu
   simp only [Prod.mk.injEq] at hu
   omega
  rw [show outR all' = (all', 0) from if_neg c0] at hu
  simp only [Prod.mk.injEq] at hu
  obtain ⟨rfl, _⟩ := hu
  have hp := pb_len (part.length : Int)
  have hq := pb_len q
  obtain ⟨X, hX⟩ : ∃ X, X = all ++ rest := ⟨_, rfl⟩
  have hXl : X.length = (pb (part.length : Int)).length + part.length + 4 + rest.length := by
   rw [hX, hall, List.length_append, List.length_append, List.length_append, ht]
  have hal : all.length = (pb (part.length : Int)).length + part.length + 4 := by rw [hall, List.length_append, List.length_append, ht]
  have hd0 : X.drop 0 = vb 8 (part.length : Int) ++ (part ++ (t ++ rest)) := by
   rw [List.drop_zero, hX, hall]
   unfold pb
   simp only [List.append_assoc]
  refine ⟨by omega, hab, ?_⟩
  rw [← hX] at hl ⊢
  have hgv := get_vb X 0 hl (Nat.zero_le _) (part.length : Int) _ hd0 ⟨by omega, by omega⟩
  rw [Nat.zero_add] at hgv
  have e2 : (vb 8 (part.length : Int)).length = (pb (part.length : Int)).length := rfl
  rw [e2] at hgv
  have hdm : X.drop (pb (part.length : Int)).length = part ++ (t ++ rest) := by
   have h := drop_len (b := X) (n := 0) (x := pb (part.length : Int)) (u := part ++ (t ++ rest)) hd0 (Nat.zero_le _)
   rw [Nat.zero_add] at h
   exact h.2
  generalize (pb (part.length : Int)).length = m at hp hXl hal hgv hdm
  have hcut : (X.take (((m + part.length : Nat) : Int)).toNat).drop ((m : Int)).toNat = part := by
   rw [Int.toNat_natCast, Int.toNat_natCast, List.drop_take, hdm, Nat.add_sub_cancel_left, List.take_left]
  have hp2 : 2 ≤ part.length := by
   rcases hsh with ⟨_, rfl, _⟩ | ⟨_, rfl, _⟩
   ·simp only [List.length_append, List.length_cons, List.length_nil]; omega
   ·simp only [List.length_append, List.length_cons, List.length_nil]; omega
  have hpl2 : part.length ≤ 1048576 := by omega
  have c2 := gt_no part.length X.length m rest.length hXl
  have hpos : (0 : Int) ≤ (m : Int) ∧ (m : Int) ≤ ((m + part.length : Nat) : Int) ∧ ((m + part.length : Nat) : Int) ≤ (X.length : Int) ∧ (0 : Int) < (part.length : Int) := by omega
  have hqb : okNum q := ⟨by omega, q2⟩
  have w1 := Aside0.mk (wsum m part.length hp.2 hpl2)
  have w2 := Aside0.mk (wsub X.length m hl hp.2)
  have c1 : ¬ (part.length : Int) < 2 := by omega
  have hK : Aside0 (wrap64 (rd part 0) = K) := by
   refine ⟨?_⟩
   have e : rd part 0 = K % 256 := by
    rcases hsh with ⟨_, rfl, _⟩ | ⟨_, rfl, _⟩ <;> rfl
   rw [e]
   rcases hk with rfl | rfl
   ·rw [w64 (by decide) (by decide)]; rfl
   ·rw [w64 (by decide) (by decide)]; rfl
  have st : ∀ r, Ev (fun k => (F9.f k part 1).bind fun bt259 => (if bt259.2.2 = 0 then (if K = 1 then (if 0 ≤ bt259.2.1 then (if bt259.2.1 ≤ (part.length : Int) then ((F41.f k (part.drop (bt259.2.1 : Int).toNat)).bind fun bt263 => (if bt263.2.2 = 0 then (F11.j1 k X K bt259.1 (⟨#[]⟩ : ByteArray) bt263.1 bt263.2.1) else (some (0, 0, (⟨#[]⟩ : ByteArray), (⟨#[]⟩ : ByteArray), ([] : List (S66)), 0)))) else (none)) else (none)) else (if K = 2 then (if 0 ≤ bt259.2.1 then (if bt259.2.1 ≤ (part.length : Int) then (F11.j1 k X K bt259.1 (strOfNums (part.drop (bt259.2.1 : Int).toNat)) (⟨#[]⟩ : ByteArray) ([] : List (S66))) else (none)) else (none)) else (F11.j1 k X K bt259.1 (⟨#[]⟩ : ByteArray) (⟨#[]⟩ : ByteArray) ([] : List (S66))))) else (some (0, 0, (⟨#[]⟩ : ByteArray), (⟨#[]⟩ : ByteArray), ([] : List (S66)), 0)))) r → Ev (fun k => F11.f k X) r := fun r h => by
   unfold F11.f
   refine Ev.bind hgv (Ev.pos rfl (Ev.neg c1 ?_))
   simp only [w2.out.1, w2.out.2, c2]
   refine Ev.step (fun k => by rw [F11.j0, w1.out, hcut, hK.out]) ?_
   refine Ev.neg Bool.false_ne_true ?_
   refine Ev.pos hpos.1 ?_
   refine Ev.pos hpos.2.1 ?_
   refine Ev.pos hpos.2.2.1 ?_
   exact Ev.pos hpos.2.2.2 h
  refine st _ ?_
  have get1 : ∀ body, part = ([K % 256] ++ pb q) ++ body → Ev (fun k => F9.f k part 1) (q, ((1 + (pb q).length : Nat) : Int), 0) ∧ part.drop (1 + (pb q).length) = body ∧ 1 + (pb q).length ≤ part.length := fun body hb => by
   have d1 : part.drop 1 = pb q ++ body := by rw [hb]; rfl
   have h := drop_len d1 (by omega)
   exact ⟨get_vb part 1 hpl2 (by omega) q body d1 hqb, h.2, h.1⟩
  rcases hsh with ⟨k1, hpt, hfit, hid⟩ | ⟨k2, hpt, hdid, rfl⟩
  ·obtain ⟨g1, g2, g3⟩ := get1 _ hpt
   have hdl : (dbytes did l).length ≤ 1048576 := by
    have := congrArg List.length g2
    rw [List.length_drop] at this
    omega
   refine Ev.bind g1 (Ev.pos rfl (Ev.pos k1 (Ev.pos (Int.natCast_nonneg _) (Ev.pos (Int.ofNat_le.2 g3) ?_))))
   dsimp only
   rw [Int.toNat_natCast, g2]
   have hb := read_back did l hfit hdl
   have e : id = ⟨#[]⟩ := empty_of id hid
   subst e
   exact Ev.bind hb (Ev.pos rfl (j1_back X all K q _ did l rest hX hr))
  ·obtain ⟨g1, g2, g3⟩ := get1 _ hpt
   refine Ev.bind g1 (Ev.pos rfl (Ev.neg (by omega) (Ev.pos k2 (Ev.pos (Int.natCast_nonneg _) (Ev.pos (Int.ofNat_le.2 g3) ?_)))))
   dsimp only
   rw [Int.toNat_natCast, g2, str_back]
   have e : did = ⟨#[]⟩ := empty_of did hdid
   subst e
   exact j1_back X all K q id _ [] rest hX hr

theorem wnat (a b : Nat) (ha : a ≤ 2000000) (hb : b ≤ 2000000) : wrap64 ((a : Int) + (b : Int)) = ((a + b : Nat) : Int) := by rw [w64 (by omega) (by omega)]; omega
theorem wone (a : Nat) (ha : a ≤ 2000000) : wrap64 ((a : Int) + 1) = ((a + 1 : Nat) : Int) := by rw [w64 (by omega) (by omega)]; omega
theorem vb_cont (d : Nat) : ∀ (a : Int) (i : Nat), 0 ≤ a → i + 1 < (vb d a).length → ¬ (vb d a).getD i 0 < 128 := by
 induction d with
 | zero => intro a i _ h; simp [vb] at h
 | succ d ih =>
  intro a i h0 h
  unfold vb at h ⊢
  by_cases c : a < 128
  ·rw [if_pos c] at h; simp at h
  ·rw [if_neg c] at h ⊢
   cases i with
   | zero =>
    show ¬ (128 + a % 128 : Int) < 128
    omega
   | succ i =>
    rw [List.length_cons] at h
    have := ih (a / 128) i (by omega) (by omega)
    exact this
def noRec : Int × Int × ByteArray × ByteArray × List S66 × Int := (0, 0, (⟨#[]⟩ : ByteArray), (⟨#[]⟩ : ByteArray), ([] : List S66), 0)
theorem j0_no (X : List Int) (v m : Int) : Ev (fun k => F11.j0 k X v m true) noRec := Ev.step (f := fun _ => some noRec) (fun k => by rw [F11.j0, if_pos rfl]; rfl) (Ev.now _)
theorem stop_get (X : List Int) (hl : X.length ≤ 1048576) (hb : ∀ x ∈ X, 0 ≤ x ∧ x ≤ 255) (hc : ∀ i, i < X.length → ¬ X.getD i 0 < 128) : Ev (fun k => F11.f k X) noRec := by
 obtain ⟨r, hG, _, hg⟩ := get_at X 0 hl (Nat.zero_le _) hb
 have hr : ¬ r.2.2 = true := fun h => by
  obtain ⟨_, _, m, _, _, h1, _, h2, _⟩ := hG h
  rw [Nat.zero_add] at h1 h2
  exact hc m h1 h2
 unfold tell at hg
 rw [if_neg hr] at hg
 unfold F11.f
 exact Ev.bind hg (Ev.neg (show ¬ (3 : Int) = 0 by decide) (j0_no _ _ _))
theorem stop_nil : Ev (fun k => F11.f k ([] : List Int)) noRec := stop_get [] (by simp) (by simp) (by simp)
theorem gt_yes (p x m : Nat) (h : x < m + p + 4) : decide ((p : Int) > (x : Int) - (m : Int) - 4) = true := decide_eq_true (by omega)
theorem rec_bytes (K q : Int) (id did : ByteArray) (l : List S66) (all : List Int) (hi : id.size ≤ 1048576) (hdi : did.size ≤ 1048576) (hn : l.length ≤ 1048576) (hv : ∀ v ∈ l, okV v)
 (hr : Ev (fun k => F4.f k K q id did l) (all, 0)) : ∃ part t : List Int, t.length = 4 ∧ all = pb (part.length : Int) ++ part ++ t ∧ (∀ x ∈ all, 0 ≤ x ∧ x ≤ 255) ∧ all.length ≤ 1048576 := by
 obtain ⟨ok, _, h⟩ := rec_shape K q id did l hi hdi hn hv
 rcases h with ⟨_, hbad⟩ | ⟨_, hk, part, all', hpl, _, ⟨⟨t, ht, hall⟩, hab⟩, _, hr'⟩
 ·have := Ev_uniq hr hbad
  simp only [Prod.mk.injEq] at this
  omega
 ·have hu := Ev_uniq hr hr'
  have c0 : ¬ (all'.length : Int) > 1048576 := fun c => by
   rw [show outR all' = ([], 2) from if_pos c] at hu
   simp only [Prod.mk.injEq] at hu
   omega
  rw [show outR all' = (all', 0) from if_neg c0] at hu
  simp only [Prod.mk.injEq] at hu
  obtain ⟨rfl, _⟩ := hu
  exact ⟨part, t, ht, hall, hab, by omega⟩
theorem stop_cut (K q : Int) (id did : ByteArray) (l : List S66) (all : List Int) (c : Nat) (hi : id.size ≤ 1048576) (hdi : did.size ≤ 1048576) (hn : l.length ≤ 1048576) (hv : ∀ v ∈ l, okV v)
 (hr : Ev (fun k => F4.f k K q id did l) (all, 0)) (hc : c < all.length) : Ev (fun k => F11.f k (all.take c)) noRec := by
 obtain ⟨part, t, ht, hall, hab, hal⟩ := rec_bytes K q id did l all hi hdi hn hv hr
 have hp := pb_len (part.length : Int)
 have hlen : all.length = (pb (part.length : Int)).length + part.length + 4 := by rw [hall, List.length_append, List.length_append, ht]
 have htl : (all.take c).length = c := by rw [List.length_take]; omega
 have hlt1 : (all.take c).length ≤ 1048576 := by rw [htl]; exact Nat.le_trans (Nat.le_of_lt hc) hal
 have htb : ∀ x ∈ all.take c, 0 ≤ x ∧ x ≤ 255 := fun x hx => hab x (List.mem_of_mem_take hx)
 have htk : all.take c = (pb (part.length : Int) ++ (part ++ t)).take c := by rw [hall, List.append_assoc]
 by_cases cc : c < (pb (part.length : Int)).length
 ·refine stop_get _ hlt1 htb (fun i hi => ?_)
  rw [htl] at hi
  have e : (all.take c).getD i 0 = (vb 8 (part.length : Int)).getD i 0 := by
   rw [htk, List.getD_eq_getElem?_getD, List.getElem?_take_of_lt hi, List.getElem?_append_left (by omega), List.getD_eq_getElem?_getD]
   rfl
  rw [e]
  exact vb_cont 8 _ i (by omega) (by
   have e2 : (vb 8 (part.length : Int)).length = (pb (part.length : Int)).length := rfl
   omega)
 ·have hd : (all.take c).drop 0 = vb 8 (part.length : Int) ++ (part ++ t).take (c - (pb (part.length : Int)).length) := by
   rw [List.drop_zero, htk, List.take_append, List.take_of_length_le (by omega)]
   rfl
  have hgv := get_vb (all.take c) 0 hlt1 (Nat.zero_le _) (part.length : Int) _ hd ⟨by omega, by omega⟩
  rw [Nat.zero_add] at hgv
  have e2 : (vb 8 (part.length : Int)).length = (pb (part.length : Int)).length := rfl
  rw [e2] at hgv
  generalize (pb (part.length : Int)).length = m at hp hlen hgv cc
  have hcut : (all.take c).length < m + part.length + 4 := by rw [htl, ← hlen]; exact hc
  have c2 := gt_yes part.length (all.take c).length m hcut
  have W := Aside0.mk (wsub (all.take c).length m hlt1 hp.2)
  unfold F11.f
  refine Ev.bind hgv (Ev.pos rfl ?_)
  by_cases c1 : (part.length : Int) < 2
  ·exact Ev.pos c1 (j0_no _ _ _)
  ·refine Ev.neg c1 ?_
   simp only [W.out.1, W.out.2, c2]
   exact j0_no _ _ _
def okI (i : Nat) (x : S47 × List Int) : Prop := x.1.f1 = ((i + 1 : Nat) : Int) ∧ x.1.f2.size ≤ 1048576 ∧ x.1.f3.f0.size ≤ 1048576 ∧ x.1.f3.f1.length ≤ 1048576 ∧ (∀ v ∈ x.1.f3.f1, okV v) ∧ Ev (fun k => F4.f k x.1.f0 x.1.f1 x.1.f2 x.1.f3.f0 x.1.f3.f1) (x.2, 0)
theorem log_back (b : List Int) (hl : b.length ≤ 1048576) (rest : List Int) (hstop : Ev (fun k => F11.f k rest) noRec) : ∀ (L : List (S47 × List Int)) (i p : Nat) (acc : List S47), acc.length = i → i + L.length ≤ 1000000 → p ≤ b.length → b.drop p = L.flatMap (fun x => x.2) ++ rest → (∀ j (h : j < L.length), okI (i + j) L[j]) →
 Ev (fun k => F21.l0 k b acc (p : Int)) (acc ++ L.map (fun x => x.1), ((p + (L.flatMap (fun x => x.2)).length : Nat) : Int), 0)
 | [], i, p, acc, ha, hi, hp, hd, _ => by
  rw [List.flatMap_nil, List.nil_append] at hd
  refine Ev.step (fun k => by rw [F21.l0]) (Ev.pos (Int.natCast_nonneg _) (Ev.pos (Int.ofNat_le.2 hp) ?_))
  rw [Int.toNat_natCast, hd]
  refine Ev.bind hstop (Ev.pos rfl ?_)
  simp only [List.map_nil, List.append_nil, List.flatMap_nil, List.length_nil, Nat.add_zero]
  exact Ev.now _
 | x :: L, i, p, acc, ha, hi, hp, hd, hok => by
  rw [List.flatMap_cons, List.append_assoc] at hd
  rw [List.length_cons] at hi
  obtain ⟨g1, g2, g3, g4, g5, g6⟩ := hok 0 (by rw [List.length_cons]; omega)
  simp only [List.getElem_cons_zero] at g1 g2 g3 g4 g5 g6
  have hdl := drop_len hd hp
  have hxl : (x.2 ++ (L.flatMap (fun x => x.2) ++ rest)).length ≤ 1048576 := by rw [← hd, List.length_drop]; omega
  obtain ⟨k1, _, k2⟩ := rec_back x.1.f0 x.1.f1 x.1.f2 x.1.f3.f0 x.1.f3.f1 x.2 _ g2 g3 g4 g5 g6 hxl
  have ih := log_back b hl rest hstop L (i + 1) (p + x.2.length) (acc ++ [x.1]) (by rw [List.length_append, ha]; rfl) (by omega) hdl.1 hdl.2 (fun j h => by
   have := hok (j + 1) (by rw [List.length_cons]; omega)
   simp only [List.getElem_cons_succ] at this
   rw [show i + 1 + j = i + (j + 1) by omega]
   exact this)
  refine Ev.step (fun k => by rw [F21.l0]) (Ev.pos (Int.natCast_nonneg _) (Ev.pos (Int.ofNat_le.2 hp) ?_))
  rw [Int.toNat_natCast, hd]
  have n0 : ¬ (x.2.length : Int) = 0 := by omega
  have n2 : acc.length < 1954687338268 := by omega
  have m1 : i ≤ 2000000 := by omega
  have m2 : p ≤ 2000000 := by omega
  have m3 : x.2.length ≤ 2000000 := by omega
  have n1' : x.1.f1 = wrap64 ((acc.length : Int) + 1) := by rw [g1, ha, wone i m1]
  have n3 := wnat p x.2.length m2 m3
  refine Ev.bind k2 (Ev.neg n0 (Ev.pos n1' (Ev.pos n2 ?_)))
  simp only [n3]
  rw [List.map_cons, List.flatMap_cons, List.length_append, ← Nat.add_assoc]
  have e : acc ++ x.1 :: L.map (fun x => x.1) = (acc ++ [x.1]) ++ L.map (fun x => x.1) := by simp
  rw [e]
  exact ih

def BytesOK (s : List Int) : Prop := s.length ≤ 1048576 ∧ ∀ i, i < s.length → 0 ≤ s.getD i 0 ∧ s.getD i 0 ≤ 255
def SeedOK (q : Int) : Prop := 0 ≤ q ∧ q < 2147483648
theorem src_byte (s : List Int) (hs : BytesOK s) (at_ q : Int) (h0 : 0 ≤ at_) (h1 : at_ ≤ 1000000000000) (hq : SeedOK q) :
 ∃ v q', F8.f s at_ q = some (v, at_ + 1, q') ∧ 0 ≤ v ∧ v ≤ 255 ∧ SeedOK q' := by
 obtain ⟨q0, q1⟩ := hq
 have e1 : Aside0 (wrap64 (at_ + 1) = at_ + 1) := ⟨w64 (by omega) (by omega)⟩
 have e2 : Aside0 (wrap64 (at_ + 1 - 1) = at_) := ⟨by rw [w64 (by omega) (by omega)]; omega⟩
 have hl := hs.1
 unfold F8.f
 rw [e1.out, e2.out]
 by_cases c : at_ + 1 ≤ (s.length : Int)
 ·rw [if_pos c, if_pos h0, if_pos (by omega)]
  obtain ⟨n, rfl⟩ : ∃ n : Nat, at_ = n := ⟨at_.toNat, by omega⟩
  obtain ⟨b0, b1⟩ := hs.2 n (by omega)
  rw [rd_nat]
  generalize s.getD n 0 = b at *
  have e3 : Aside0 (wrap64 b = b) := ⟨w64 (by omega) (by omega)⟩
  have e4 : Aside0 (wrap64 (q * 31) = q * 31) := ⟨w64 (by omega) (by omega)⟩
  have e5 : Aside0 (wrap64 (q * 31 + b) = q * 31 + b) := ⟨w64 (by omega) (by omega)⟩
  have e6 : Aside0 (wrap64 (q * 31 + b + 7) = q * 31 + b + 7) := ⟨w64 (by omega) (by omega)⟩
  rw [e3.out, e4.out, e5.out, e6.out, Int.tmod_eq_emod_of_nonneg (by omega)]
  exact ⟨_, _, rfl, b0, b1, by omega, by omega⟩
 ·rw [if_neg c]
  by_cases c2 : at_ + 1 > wrap64 (4000 + wrap64 (4 * (s.length : Int)))
  ·rw [if_pos c2]; exact ⟨_, _, rfl, by omega, by omega, q0, q1⟩
  ·rw [if_neg c2]
   have e4 : Aside0 (wrap64 (q * 1103515245) = q * 1103515245) := ⟨w64 (by omega) (by omega)⟩
   have e5 : Aside0 (wrap64 (q * 1103515245 + 12345) = q * 1103515245 + 12345) := ⟨w64 (by omega) (by omega)⟩
   rw [e4.out, e5.out, Int.tmod_eq_emod_of_nonneg (a := q * 1103515245 + 12345) (by omega)]
   generalize hz : (q * 1103515245 + 12345) % 2147483648 = z
   have z0 : 0 ≤ z := by omega
   have z1 : z < 2147483648 := by omega
   clear hz e4 e5 c2
   have e7 : Aside0 (wrap64 (Int.tdiv z 65536) = z / 65536) := ⟨by rw [Int.tdiv_eq_ediv_of_nonneg z0, w64 (by omega) (by omega)]⟩
   rw [e7.out, Int.tmod_eq_emod_of_nonneg (by omega)]
   exact ⟨_, _, rfl, by omega, by omega, z0, z1⟩
theorem src_next (s : List Int) (hs : BytesOK s) (at_ q n : Int) (h0 : 0 ≤ at_) (h1 : at_ ≤ 100000000000) (hq : SeedOK q) (hn : 1 ≤ n) :
 ∃ v a' q', F1.f s at_ q n = some (v, a', q') ∧ 0 ≤ v ∧ v < n ∧ at_ ≤ a' ∧ a' ≤ at_ + 3 ∧ SeedOK q' := by
 unfold F1.f
 by_cases c1 : n ≤ 1
 ·rw [if_pos c1]; exact ⟨_, _, _, rfl, by omega, by omega, by omega, by omega, hq⟩
 ·rw [if_neg c1]
  obtain ⟨v1, q1, e1, b1, d1, hq1⟩ := src_byte s hs at_ q h0 (by omega) hq
  rw [e1]
  by_cases c2 : n ≤ 256
  ·rw [if_pos c2, Option.bind_some, if_neg (by omega)]
   simp only
   rw [Int.tmod_eq_emod_of_nonneg b1]
   exact ⟨_, _, _, rfl, Int.emod_nonneg _ (by omega), Int.emod_lt_of_pos _ (by omega), by omega, by omega, hq1⟩
  ·obtain ⟨v2, q2, e2, b2, d2, hq2⟩ := src_byte s hs (at_ + 1) q1 (by omega) (by omega) hq1
   obtain ⟨v3, q3, e3, b3, d3, hq3⟩ := src_byte s hs (at_ + 1 + 1) q2 (by omega) (by omega) hq2
   rw [if_neg c2]
   simp only [Option.bind_some]
   rw [e2]
   simp only [Option.bind_some]
   rw [e3]
   simp only [Option.bind_some]
   rw [if_neg (by omega)]
   have w1 : Aside0 (wrap64 (v1 * 65536) = v1 * 65536) := ⟨w64 (by omega) (by omega)⟩
   have w2 : Aside0 (wrap64 (v2 * 256) = v2 * 256) := ⟨w64 (by omega) (by omega)⟩
   have w3 : Aside0 (wrap64 (v1 * 65536 + v2 * 256) = v1 * 65536 + v2 * 256) := ⟨w64 (by omega) (by omega)⟩
   have w4 : Aside0 (wrap64 (v1 * 65536 + v2 * 256 + v3) = v1 * 65536 + v2 * 256 + v3) := ⟨w64 (by omega) (by omega)⟩
   rw [w1.out, w2.out, w3.out, w4.out, Int.tmod_eq_emod_of_nonneg (by omega)]
   exact ⟨_, _, _, rfl, Int.emod_nonneg _ (by omega), Int.emod_lt_of_pos _ (by omega), by omega, by omega, hq3⟩
theorem src_start (l : List Int) (h : l.length ≤ 1048576) : ∃ q, F46.f l = some (l, 0, q) ∧ SeedOK q := by
 unfold F46.f
 exact ⟨_, rfl, by omega, by omega⟩

theorem word_ex2 (s : List Int) (hs : BytesOK s) (at_ q : Int) (h0 : 0 ≤ at_) (h1 : at_ ≤ 10000000000) (hq : SeedOK q) :
 ∃ t a' q', F45.f s at_ q = some (t, a', q') ∧ t.size ≤ 8 ∧ at_ ≤ a' ∧ a' ≤ at_ + 3 ∧ SeedOK q' := by
 unfold F45.f
 rw [Option.bind_some]
 generalize hy : ([(⟨#[114, 117, 110]⟩ : ByteArray), (⟨#[114, 117, 110, 110, 105, 110, 103]⟩ : ByteArray), (⟨#[114, 117, 110, 115]⟩ : ByteArray), (⟨#[114, 97, 110]⟩ : ByteArray), (⟨#[99, 97, 116]⟩ : ByteArray), (⟨#[99, 97, 116, 115]⟩ : ByteArray), (⟨#[116, 104, 101]⟩ : ByteArray), (⟨#[111, 102]⟩ : ByteArray), (⟨#[104, 111, 117, 115, 101]⟩ : ByteArray), (⟨#[104, 111, 117, 115, 101, 115]⟩ : ByteArray), (⟨#[113, 117, 105, 99, 107]⟩ : ByteArray), (⟨#[102, 111, 120]⟩ : ByteArray), (⟨#[105, 116, 39, 115]⟩ : ByteArray), (⟨#[120, 95, 49]⟩ : ByteArray), (⟨#[195, 156, 98, 101, 114]⟩ : ByteArray), (⟨#[99, 97, 102, 195, 169]⟩ : ByteArray), (⟨#[67, 97, 116]⟩ : ByteArray), (⟨#[52, 50]⟩ : ByteArray), (⟨#[55]⟩ : ByteArray), (⟨#[208, 150, 97, 114]⟩ : ByteArray), (⟨#[228, 184, 173]⟩ : ByteArray), (⟨#[206, 169, 109, 101, 103, 97]⟩ : ByteArray), (⟨#[115, 116, 111, 112, 112, 101, 100]⟩ : ByteArray), (⟨#[113, 117, 105, 99, 107, 108, 121]⟩ : ByteArray), (⟨#[108, 97, 100, 105, 101, 115]⟩ : ByteArray)] : List ByteArray) = y
 have hz : ∀ x ∈ y, x.size ≤ 8 := by rw [← hy]; decide
 have hl : y.length = 25 := by rw [← hy]; rfl
 clear hy
 obtain ⟨v, a', q', e, b0, b1, b2, b3, hq'⟩ := src_next s hs at_ q (y.length : Int) h0 (by omega) hq (by omega)
 rw [e, Option.bind_some]
 simp only
 rw [if_pos b0, if_pos b1]
 refine ⟨_, _, _, rfl, ?_, by omega, b3, hq'⟩
 obtain ⟨i, rfl⟩ : ∃ i : Nat, v = i := ⟨v.toNat, by omega⟩
 have hi : i < y.length := by omega
 rw [rdOf, Int.toNat_natCast, List.getD_eq_getElem?_getD, List.getElem?_eq_getElem hi]
 exact hz _ (List.getElem_mem hi)

def Dr {α : Type} (g : Nat → Option α) (P : α → Prop) : Prop := ∃ r, Ev g r ∧ P r
theorem Dr.now {α : Type} {r : α} {P : α → Prop} (h : P r) : Dr (fun _ => some r) P := ⟨r, Ev.now _, h⟩
theorem Dr.pos {α : Type} {c : Prop} [Decidable c] {f g : Nat → Option α} {P : α → Prop} (h : c) (k : Dr f P) : Dr (fun n => if c then f n else g n) P := by
 obtain ⟨r, e, p⟩ := k
 exact ⟨r, Ev.pos h e, p⟩
theorem Dr.neg {α : Type} {c : Prop} [Decidable c] {f g : Nat → Option α} {P : α → Prop} (h : ¬ c) (k : Dr g P) : Dr (fun n => if c then f n else g n) P := by
 obtain ⟨r, e, p⟩ := k
 exact ⟨r, Ev.neg h e, p⟩
theorem Dr.ite {α : Type} {c : Prop} [Decidable c] {f g : Nat → Option α} {P : α → Prop} (h1 : c → Dr f P) (h2 : ¬ c → Dr g P) : Dr (fun n => if c then f n else g n) P := by
 by_cases h : c
 ·exact Dr.pos h (h1 h)
 ·exact Dr.neg h (h2 h)
theorem Dr.step {α : Type} {f g : Nat → Option α} {P : α → Prop} (h : ∀ k, g (k + 1) = f k) (k : Dr f P) : Dr g P := by
 obtain ⟨r, e, p⟩ := k
 exact ⟨r, Ev.step h e, p⟩
theorem Dr.bind {α β : Type} {f : Nat → Option α} {g : Nat → α → Option β} {Q : α → Prop} {P : β → Prop} (h : Dr f Q) (k : ∀ t, Q t → Dr (fun n => g n t) P) : Dr (fun n => (f n).bind (g n)) P := by
 obtain ⟨t, e, q⟩ := h
 obtain ⟨r, e', p⟩ := k t q
 exact ⟨r, Ev.bind e e', p⟩
theorem Dr.list {α β : Type} {y : α} {g : Nat → α → Option β} {P : β → Prop} (Q : α → Prop) (q : Q y) (k : ∀ z, Q z → Dr (fun n => g n z) P) : Dr (fun n => (some y).bind (g n)) P := k y q
theorem Dr.mono {α : Type} {g : Nat → Option α} {P Q : α → Prop} (h : Dr g P) (hp : ∀ r, P r → Q r) : Dr g Q := by
 obtain ⟨r, e, p⟩ := h
 exact ⟨r, e, hp r p⟩
def Pq (B a q : Int) : Prop := 0 ≤ a ∧ a ≤ B ∧ SeedOK q
theorem Pq.mono {B B' a q : Int} (h : Pq B a q) (hb : B ≤ B') : Pq B' a q := ⟨h.1, Int.le_trans h.2.1 hb, h.2.2⟩
theorem Dr.nx {β : Type} {P : β → Prop} {g : Nat → Int × Int × Int → Option β} {s : List Int} (hs : BytesOK s) {B a q n : Int} (hp : Pq B a q) (hB : B ≤ 1000000) (hn : 1 ≤ n)
 (k : ∀ v a' q', 0 ≤ v → v < n → Pq (B + 3) a' q' → Dr (fun m => g m (v, a', q')) P) : Dr (fun m => (F1.f s a q n).bind (g m)) P := by
 obtain ⟨v, a', q', e, b0, b1, b2, b3, hq⟩ := src_next s hs a q n hp.1 (by have := hp.2.1; omega) hp.2.2 hn
 obtain ⟨r, e', p⟩ := k v a' q' b0 b1 ⟨by have := hp.1; omega, by have := hp.2.1; omega, hq⟩
 exact ⟨r, Ev.bind (Ev.ofEq e) e', p⟩
theorem Dr.ch {β : Type} {P : β → Prop} {g : Nat → Bool × Int × Int → Option β} {s : List Int} (hs : BytesOK s) {B a q n : Int} (hp : Pq B a q) (hB : B ≤ 1000000) (hn : 1 ≤ n)
 (k : ∀ v a' q', Pq (B + 3) a' q' → Dr (fun m => g m (v, a', q')) P) : Dr (fun m => (F15.f s a q n).bind (g m)) P := by
 obtain ⟨v, a', q', e, b0, b1, b2, b3, hq⟩ := src_next s hs a q n hp.1 (by have := hp.2.1; omega) hp.2.2 hn
 obtain ⟨r, e', p⟩ := k (v == wrap64 (n - 1)) a' q' ⟨by have := hp.1; omega, by have := hp.2.1; omega, hq⟩
 exact ⟨r, Ev.bind (Ev.ofEq (by unfold F15.f; rw [e]; rfl)) e', p⟩
theorem Dr.wd {β : Type} {P : β → Prop} {g : Nat → ByteArray × Int × Int → Option β} {s : List Int} (hs : BytesOK s) {B a q : Int} (hp : Pq B a q) (hB : B ≤ 1000000)
 (k : ∀ (t : ByteArray) a' q', t.size ≤ 8 → Pq (B + 3) a' q' → Dr (fun m => g m (t, a', q')) P) : Dr (fun m => (F45.f s a q).bind (g m)) P := by
 obtain ⟨v, a', q', e, b0, b2, b3, hq⟩ := word_ex2 s hs a q hp.1 (by have := hp.2.1; omega) hp.2.2
 obtain ⟨r, e', p⟩ := k v a' q' b0 ⟨by have := hp.1; omega, by have := hp.2.1; omega, hq⟩
 exact ⟨r, Ev.bind (Ev.ofEq e) e', p⟩
theorem rdOf_sz (l : List ByteArray) (m : Nat) (h : ∀ x ∈ l, x.size ≤ m) (v : Int) : (rdOf ByteArray.empty l v).size ≤ m := by
 rw [rdOf, List.getD_eq_getElem?_getD]
 by_cases c : v.toNat < l.length
 ·rw [List.getElem?_eq_getElem c]; exact h _ (List.getElem_mem c)
 ·rw [List.getElem?_eq_none (by omega)]; exact Nat.zero_le _
theorem wmq (n : Nat) (h : n ≤ 2000000) : wrap64 (((n + 1 : Nat) : Int) - 1) = (n : Int) := by rw [w64 (by omega) (by omega)]; omega
theorem wq1 (n : Nat) (h : n ≤ 2000000) : wrap64 ((n : Int) + 1) = ((n + 1 : Nat) : Int) := by rw [w64 (by omega) (by omega)]; omega
theorem pad {a b m n : Nat} (h1 : a ≤ m) (h2 : b ≤ n) (h3 : m + n ≤ 1000000) : a + b ≤ 9223372036854775807 := by omega
theorem prose_dr {s : List Int} (hs : BytesOK s) : ∀ (n : Nat) (x : ByteArray) (B a q : Int), n ≤ 100 → x.size ≤ 11 * (100 - n) → Pq B a q → B + 6 * n ≤ 100000 →
 Dr (fun k => F17.l0 k (n : Int) x s a q) (fun r => r.1.size ≤ 1100 ∧ Pq (B + 6 * n) r.2.1 r.2.2)
 | 0, x, B, a, q, _, hx, hp, _ => Dr.step (f := fun _ => some (x, a, q)) (fun k => by rw [F17.l0, if_neg (by omega)]) (Dr.now ⟨by omega, hp.mono (by omega)⟩)
 | n + 1, x, B, a, q, hn, hx, hp, hB => by
  refine Dr.step (fun k => by rw [F17.l0, if_pos (by omega), wmq n (by omega)]) ?_
  refine Dr.wd hs hp (by omega) (fun t a' q' ht hp' => ?_)
  dsimp only
  refine Dr.pos (pad hx ht (by omega)) ?_
  refine Dr.list (fun z : List ByteArray => z.length = 10 ∧ ∀ y ∈ z, y.size ≤ 3) ⟨rfl, by decide⟩ (fun z hz => ?_)
  refine Dr.nx hs hp' (by omega) (by omega) (fun v a2 q2 b0 b1 hp2 => ?_)
  dsimp only
  have hr := rdOf_sz z 3 hz.2 v
  have hxt : (x ++ t).size ≤ 11 * (100 - n) - 3 := by rw [ByteArray.size_append]; omega
  refine Dr.pos b0 (Dr.pos (by omega) (Dr.pos (pad hxt hr (by omega)) ?_))
  refine Dr.mono (prose_dr hs n _ (B + 3 + 3) a2 q2 (by omega) (by rw [ByteArray.size_append]; omega) hp2 (by omega)) (fun r hr => ⟨hr.1, hr.2.mono (by omega)⟩)
theorem dec_dr (v : Int) (h0 : 0 ≤ v) (h1 : v < 10) : Dr (fun k => F25.f k v) (fun t => t.size = 1) := by
 refine Dr.step (fun k => by rw [F25.f, if_neg (by omega), if_pos h1]) (Dr.now ?_)
 simp [strOfNums, ByteArray.size]
theorem repeat_dr (t : ByteArray) (ht : t.size = 1) (n : Nat) (hn : n ≤ 10000) : Dr (fun k => F18.f k t (n : Int)) (fun r => r.size = n) := by
 unfold F18.f
 have key : ∀ d i (x : List Int), i + d = n → x.length = i → Dr (fun k => F18.l0 k t (n : Int) x (i : Int)) (fun r => r.size = n) := by
  intro d
  induction d with
  | zero =>
   intro i x hi hx
   refine Dr.step (fun k => by rw [F18.l0, if_neg (by omega)]) (Dr.now ?_)
   simp [strOfNums, ByteArray.size]; omega
  | succ d ih =>
   intro i x hi hx
   refine Dr.step (fun k => by rw [F18.l0, if_pos (by omega), if_pos (by omega), wq1 i (by omega)]) (ih (i + 1) _ (by omega) (by rw [List.length_append, bytesOf_length, ht]; omega))
 exact key n 0 [] (by omega) rfl
theorem an_l0 {s : List Int} (hs : BytesOK s) (f0 f1 f2 : Bool) (f3 : List ByteArray) (f5 f6 : Int) : ∀ (n : Nat) (f4 : List S129) (B a q : Int), n ≤ 3 → f4.length ≤ 3 - n → Pq B a q → B + 3 * n ≤ 100000 →
 Dr (fun k => F5.l0 k (n : Int) s a q f0 f1 f2 f3 f4 f5 f6) (fun r => Pq (B + 3 * n + 9) r.2.2.2.2.2.2.2.1 r.2.2.2.2.2.2.2.2)
 | 0, f4, B, a, q, _, _, hp, _ => by
  refine Dr.step (fun k => by rw [F5.l0, if_neg (by omega)]) ?_
  refine Dr.ch hs hp (by omega) (by omega) (fun c a1 q1 hp1 => ?_)
  dsimp only
  refine Dr.ite (fun _ => ?_) (fun _ => Dr.now (hp1.mono (by omega)))
  refine Dr.nx hs hp1 (by omega) (by omega) (fun v a2 q2 _ _ hp2 => ?_)
  dsimp only
  refine Dr.nx hs hp2 (by omega) (by omega) (fun v a3 q3 _ _ hp3 => ?_)
  exact Dr.now (hp3.mono (by omega))
 | n + 1, f4, B, a, q, hn, hf, hp, hB => by
  refine Dr.step (fun k => by rw [F5.l0, if_pos (by omega), wmq n (by omega)]) ?_
  refine Dr.list (fun z : List S129 => z.length = 5) rfl (fun z hz => ?_)
  refine Dr.nx hs hp (by omega) (by omega) (fun v a2 q2 b0 b1 hp2 => ?_)
  dsimp only
  refine Dr.pos b0 (Dr.pos (by omega) (Dr.pos (by omega) ?_))
  exact Dr.mono (an_l0 hs f0 f1 f2 f3 f5 f6 n _ (B + 3) a2 q2 (by omega) (by rw [List.length_append]; simp; omega) hp2 (by omega)) (fun r hr => hr.mono (by omega))
theorem an_j0 {s : List Int} (hs : BytesOK s) (f0 f1 f2 : Bool) (f3 : List ByteArray) (f5 f6 : Int) {B a q : Int} (hp : Pq B a q) (hB : B ≤ 90000) :
 Dr (fun k => F5.j0 k s a q f0 f1 f2 f3 f5 f6) (fun r => Pq (B + 21) r.2.2.2.2.2.2.2.1 r.2.2.2.2.2.2.2.2) := by
 refine Dr.step (fun k => by rw [F5.j0]) ?_
 refine Dr.nx hs hp (by omega) (by omega) (fun v a2 q2 b0 b1 hp2 => ?_)
 dsimp only
 obtain ⟨n, rfl⟩ : ∃ n : Nat, v = n := ⟨v.toNat, by omega⟩
 exact Dr.mono (an_l0 hs f0 f1 f2 f3 f5 f6 n [] (B + 3) a2 q2 (by omega) (Nat.zero_le _) hp2 (by omega)) (fun r hr => hr.mono (by omega))
theorem an_dr {s : List Int} (hs : BytesOK s) {B a q : Int} (hp : Pq B a q) (hB : B ≤ 80000) :
 Dr (fun k => F5.f k s a q) (fun r => Pq (B + 40) r.2.2.2.2.2.2.2.1 r.2.2.2.2.2.2.2.2) := by
 unfold F5.f
 refine Dr.ch hs hp (by omega) (by omega) (fun c1 a1 q1 hp1 => ?_)
 dsimp only
 refine Dr.ch hs hp1 (by omega) (by omega) (fun c2 a2 q2 hp2 => ?_)
 dsimp only
 refine Dr.ch hs hp2 (by omega) (by omega) (fun c3 a3 q3 hp3 => ?_)
 dsimp only
 refine Dr.ch hs hp3 (by omega) (by omega) (fun c4 a4 q4 hp4 => ?_)
 dsimp only
 refine Dr.ite (fun _ => ?_) (fun _ => Dr.mono (an_j0 hs _ _ _ _ _ _ hp4 (by omega)) (fun r hr => hr.mono (by omega)))
 refine Dr.list (fun z : List ByteArray => z.length = 4) rfl (fun z hz => ?_)
 refine Dr.nx hs hp4 (by omega) (by omega) (fun v a5 q5 b0 b1 hp5 => ?_)
 dsimp only
 have e : wrap64 (1 + v) = 1 + v := w64 (by omega) (by omega)
 refine Dr.pos (by omega) (Dr.pos (by omega) ?_)
 exact Dr.mono (an_j0 hs _ _ _ _ _ _ hp5 (by omega)) (fun r hr => hr.mono (by omega))
theorem schema_dr {s : List Int} (hs : BytesOK s) {B a q : Int} (hp : Pq B a q) (hB : B ≤ 70000) :
 Dr (fun k => F36.f k s a q) (fun r => r.1.length ≤ 5 ∧ Pq (B + 46) r.2.1 r.2.2) := by
 unfold F36.f
 refine Dr.bind (an_dr hs hp (by omega)) (fun t ht => ?_)
 refine Dr.list (fun z : List S126 => z.length = 5) rfl (fun z hz => ?_)
 refine Dr.ch hs ht (by omega) (by omega) (fun c1 a1 q1 hp1 => ?_)
 dsimp only
 refine Dr.ite (fun _ => ?_) (fun _ => Dr.now ⟨by show z.length ≤ 5; omega, hp1.mono (by omega)⟩)
 refine Dr.nx hs hp1 (by omega) (by omega) (fun v a5 q5 b0 b1 hp5 => ?_)
 dsimp only
 have e : wrap64 (1 + v) = 1 + v := w64 (by omega) (by omega)
 refine Dr.pos (by omega) (Dr.pos (by omega) (Dr.now ⟨?_, hp5.mono (by omega)⟩))
 rw [List.length_take]; omega
def okD (m : Nat) (v : S66) : Prop := v.f1.length ≤ m ∧ v.f2.length ≤ m
def Dc (id : ByteArray) (B : Int) (r : ByteArray × List S66 × Int × Int) : Prop := r.1 = id ∧ r.2.1.length ≤ 5 ∧ (∀ v ∈ r.2.1, okD 2 v) ∧ Pq B r.2.2.1 r.2.2.2
theorem all_snoc {P : S66 → Prop} {l : List S66} {x : S66} (h : ∀ v ∈ l, P v) (hx : P x) : ∀ v ∈ l ++ [x], P v := by
 intro v hv
 rcases List.mem_append.1 hv with h' | h'
 ·exact h v h'
 ·rw [List.mem_singleton.1 h']; exact hx
theorem doc_l1 {s : List Int} (hs : BytesOK s) (sc : List S126) (id : ByteArray) (i : Nat) (hi : i < sc.length) (hl : sc.length ≤ 5) (vals : List S66) (hv : vals.length ≤ i) (hvs : ∀ v ∈ vals, okD 2 v) (Bz Bm : Int) (hBz : Bm ≤ 90000)
 (ih : ∀ vals' a q, vals'.length ≤ i + 1 → (∀ v ∈ vals', okD 2 v) → Pq Bm a q → Dr (fun k => F3.l0 k ((i + 1 : Nat) : Int) s a q sc id vals') (Dc id Bz)) :
 ∀ (n : Nat) (B a q : Int) (f0 : ByteArray) (f1 : List ByteArray) (f2 : List Int), n ≤ 2 → f1.length + n ≤ 2 → f2.length + n ≤ 2 → Pq B a q → B + 80 * n ≤ Bm →
 Dr (fun k => F3.l1 k (i : Int) (n : Int) s a q sc id vals f0 f1 f2) (Dc id Bz)
 | 0, B, a, q, f0, f1, f2, _, h1, h2, hp, hB => by
  refine Dr.step (fun k => by rw [F3.l1, if_neg (by omega), wq1 i (by omega)]) ?_
  refine Dr.pos (by omega) (ih _ a q (by rw [List.length_append]; simp; omega) (all_snoc hvs ⟨by simp; omega, by simp; omega⟩) (hp.mono (by omega)))
 | n + 1, B, a, q, f0, f1, f2, hn, h1, h2, hp, hB => by
  refine Dr.step (fun k => by rw [F3.l1, if_pos (by omega), if_pos (by omega), if_pos (by omega), wmq n (by omega)]) ?_
  refine Dr.ite (fun _ => ?_) (fun _ => Dr.ite (fun _ => ?_) (fun _ => ?_))
  ·refine Dr.nx hs hp (by omega) (by omega) (fun v a1 q1 b0 b1 hp1 => ?_)
   dsimp only
   obtain ⟨m, rfl⟩ : ∃ m : Nat, v = m := ⟨v.toNat, by omega⟩
   unfold F17.f
   refine Dr.bind (prose_dr hs m _ _ a1 q1 (by omega) (Nat.zero_le _) hp1 (by omega)) (fun t ht => ?_)
   refine Dr.pos (by omega) ?_
   exact doc_l1 hs sc id i hi hl vals hv hvs Bz Bm hBz ih n (B + 80) _ _ f0 _ f2 (by omega) (by rw [List.length_append]; simp; omega) (by omega) (ht.2.mono (by omega)) (by omega)
  ·refine Dr.list (fun z : List ByteArray => z.length = 5) rfl (fun z hz => ?_)
   refine Dr.nx hs hp (by omega) (by omega) (fun v a1 q1 b0 b1 hp1 => ?_)
   dsimp only
   refine Dr.pos b0 (Dr.pos (by omega) (Dr.pos (by omega) ?_))
   exact doc_l1 hs sc id i hi hl vals hv hvs Bz Bm hBz ih n (B + 80) _ _ f0 _ f2 (by omega) (by rw [List.length_append]; simp; omega) (by omega) (hp1.mono (by omega)) (by omega)
  ·refine Dr.nx hs hp (by omega) (by omega) (fun v a1 q1 b0 b1 hp1 => ?_)
   dsimp only
   refine Dr.pos (by omega) ?_
   exact doc_l1 hs sc id i hi hl vals hv hvs Bz Bm hBz ih n (B + 80) _ _ f0 f1 _ (by omega) (by omega) (by rw [List.length_append]; simp; omega) (hp1.mono (by omega)) (by omega)
theorem doc_l0 {s : List Int} (hs : BytesOK s) (sc : List S126) (id : ByteArray) (hl : sc.length ≤ 5) (Bz : Int) (hBz : Bz ≤ 80000) : ∀ (d i : Nat) (a q : Int) (vals : List S66), i + d = sc.length → vals.length ≤ i → (∀ v ∈ vals, okD 2 v) → Pq (Bz - 200 * d) a q →
 Dr (fun k => F3.l0 k (i : Int) s a q sc id vals) (Dc id Bz)
 | 0, i, a, q, vals, hi, hv, hvs, hp => by
  exact Dr.step (f := fun _ => some (id, vals, a, q)) (fun k => by rw [F3.l0, if_neg (by omega)]) (Dr.now ⟨rfl, by show vals.length ≤ 5; omega, hvs, hp.mono (by omega)⟩)
 | d + 1, i, a, q, vals, hi, hv, hvs, hp => by
  refine Dr.step (fun k => by rw [F3.l0, if_pos (by omega), if_pos (by omega), wq1 i (by omega)]) ?_
  refine Dr.ch hs hp (by omega) (by omega) (fun c a1 q1 hp1 => ?_)
  dsimp only
  refine Dr.ite (fun _ => doc_l0 hs sc id hl Bz hBz d (i + 1) a1 q1 vals (by omega) (by omega) hvs (hp1.mono (by omega))) (fun _ => ?_)
  refine Dr.nx hs hp1 (by omega) (by omega) (fun v a2 q2 b0 b1 hp2 => ?_)
  dsimp only
  obtain ⟨m, hm, hm2⟩ : ∃ m : Nat, wrap64 (wrap64 (Int.tdiv v 6) + 1) = m ∧ m ≤ 2 := by
   have e : wrap64 (Int.tdiv v 6) = v / 6 := by rw [Int.tdiv_eq_ediv_of_nonneg b0, w64 (by omega) (by omega)]
   rw [e, w64 (by omega) (by omega)]
   exact ⟨(v / 6 + 1).toNat, by omega, by omega⟩
  rw [hm]
  exact doc_l1 hs sc id i (by omega) hl vals hv hvs Bz (Bz - 200 * d) (by omega) (fun vals' a q g1 g2 g3 => doc_l0 hs sc id hl Bz hBz d (i + 1) a q vals' (by omega) g1 g2 g3) m _ a2 q2 _ [] [] hm2 (by simp; omega) (by simp; omega) hp2 (by omega)
theorem doc_dr {s : List Int} (hs : BytesOK s) (sc : List S126) (hl : sc.length ≤ 5) {B a q : Int} (hp : Pq B a q) (hB : B ≤ 10000) :
 Dr (fun k => F3.f k s a q sc) (fun r => r.1.size ≤ 10 ∧ r.2.1.length ≤ 5 ∧ (∀ v ∈ r.2.1, okD 2 v) ∧ Pq (B + 1100) r.2.2.1 r.2.2.2) := by
 have fz0 : ∀ (id : ByteArray) a' q', id.size ≤ 10 → Pq (B + 50) a' q' → Dr (fun k => F3.j0 k s a' q' sc id) (fun r => r.1.size ≤ 10 ∧ r.2.1.length ≤ 5 ∧ (∀ v ∈ r.2.1, okD 2 v) ∧ Pq (B + 1100) r.2.2.1 r.2.2.2) := by
  intro id a' q' hid hp'
  refine Dr.step (fun k => by rw [F3.j0]) ?_
  exact Dr.mono (doc_l0 hs sc id hl (B + 1100) (by omega) sc.length 0 a' q' [] (by omega) (Nat.zero_le _) (by simp) (hp'.mono (by omega))) (fun r hr => ⟨by rw [hr.1]; exact hid, hr.2⟩)
 unfold F3.f
 refine Dr.nx hs hp (by omega) (by omega) (fun v a1 q1 b0 b1 hp1 => ?_)
 dsimp only
 refine Dr.list (fun z : List Int => z.length = 1) rfl (fun z hz => ?_)
 have hz1 : (strOfNums z).size = 1 := by simp [strOfNums, ByteArray.size, hz]
 refine Dr.pos (by omega) ?_
 have h2 : ((⟨#[100]⟩ : ByteArray) ++ strOfNums z).size = 2 := by rw [ByteArray.size_append, hz1]; rfl
 generalize (⟨#[100]⟩ : ByteArray) ++ strOfNums z = y at h2 ⊢
 refine Dr.ch hs hp1 (by omega) (by omega) (fun c a2 q2 hp2 => ?_)
 dsimp only
 refine Dr.ite (fun _ => ?_) (fun _ => fz0 y _ _ (by omega) (hp2.mono (by omega)))
 refine Dr.nx hs hp2 (by omega) (by omega) (fun v a3 q3 b0 b1 hp3 => ?_)
 dsimp only
 refine Dr.list (fun z : List Int => z.length = 1) rfl (fun z hz => ?_)
 have hz1 : (strOfNums z).size = 1 := by simp [strOfNums, ByteArray.size, hz]
 refine Dr.pos (by omega) (fz0 _ _ _ (by rw [ByteArray.size_append]; omega) (hp3.mono (by omega)))

theorem num_dr {s : List Int} (hs : BytesOK s) {B a q : Int} (hp : Pq B a q) (hB : B ≤ 50000) : Dr (fun k => F23.f k s a q) (fun _ => True) := by
 have j0 : ∀ (c : Bool) a' q', Pq (B + 10) a' q' → Dr (fun k => F23.j0 k c s a' q') (fun _ => True) := by
  intro c a' q' hp'
  refine Dr.step (fun k => by rw [F23.j0]) ?_
  refine Dr.ite (fun _ => ?_) (fun _ => ?_)
  ·exact Dr.nx hs hp' (by omega) (by omega) (fun v a2 q2 _ _ _ => Dr.now trivial)
  ·exact Dr.nx hs hp' (by omega) (by omega) (fun v a2 q2 _ _ _ => Dr.now trivial)
 unfold F23.f
 refine Dr.nx hs hp (by omega) (by omega) (fun v a1 q1 _ _ hp1 => ?_)
 dsimp only
 refine Dr.ite (fun _ => ?_) (fun _ => Dr.ite (fun _ => ?_) (fun _ => Dr.ite (fun _ => j0 _ _ _ (hp1.mono (by omega))) (fun _ => j0 _ _ _ (hp1.mono (by omega)))))
 ·refine Dr.list (fun z : List Int => z.length = 10) rfl (fun z hz => ?_)
  refine Dr.nx hs hp1 (by omega) (by omega) (fun v a2 q2 b0 b1 _ => ?_)
  dsimp only
  exact Dr.pos b0 (Dr.pos (by omega) (Dr.now trivial))
 ·refine Dr.nx hs hp1 (by omega) (by omega) (fun v a2 q2 _ _ hp2 => ?_)
  dsimp only
  exact Dr.nx hs hp2 (by omega) (by omega) (fun v a3 q3 _ _ _ => Dr.now trivial)
theorem odd_dr {s : List Int} (hs : BytesOK s) {B a q : Int} (hp : Pq B a q) (hB : B ≤ 40000) : Dr (fun k => F38.f k s a q) (fun _ => True) := by
 unfold F38.f
 refine Dr.ch hs hp (by omega) (by omega) (fun c a1 q1 hp1 => ?_)
 dsimp only
 refine Dr.ite (fun _ => ?_) (fun _ => Dr.bind (num_dr hs hp1 (by omega)) (fun t _ => Dr.now trivial))
 refine Dr.list (fun z : List Int => z.length = 4) rfl (fun z hz => ?_)
 refine Dr.nx hs hp1 (by omega) (by omega) (fun v a2 q2 b0 b1 _ => ?_)
 dsimp only
 exact Dr.pos b0 (Dr.pos (by omega) (Dr.now trivial))
theorem rd66_ok {P : S66 → Prop} (l : List S66) (h : ∀ v ∈ l, P v) (i : Int) (h0 : 0 ≤ i) (h1 : i < (l.length : Int)) : P (rd_T66 l i) := by
 obtain ⟨n, rfl⟩ : ∃ n : Nat, i = n := ⟨i.toNat, by omega⟩
 have hn : n < l.length := by omega
 rw [rd_T66, Int.toNat_natCast, List.getD_eq_getElem?_getD, List.getElem?_eq_getElem hn]
 exact h _ (List.getElem_mem hn)
theorem set66_ok {P : S66 → Prop} (l : List S66) (h : ∀ v ∈ l, P v) (i : Nat) (x : S66) (hx : P x) : ∀ v ∈ l.set i x, P v := by
 intro v hv
 rcases List.mem_or_eq_of_mem_set hv with h' | h'
 ·exact h v h'
 ·rw [h']; exact hx
def Bd (r : ByteArray × List S66 × Int × Int) : Prop := r.1.size ≤ 100 ∧ r.2.1.length ≤ 6 ∧ ∀ v ∈ r.2.1, okD 40 v
theorem okD.mono {m n : Nat} {v : S66} (h : okD m v) (hn : m ≤ n) : okD n v := ⟨Nat.le_trans h.1 hn, Nat.le_trans h.2 hn⟩
theorem bent_l0 (i : Int) (s : List Int) (a q : Int) (id : ByteArray) (hid : id.size ≤ 100) (h0 : 0 ≤ i) : ∀ (n m : Nat) (l : List S66), n + m ≤ 40 → l.length ≤ 6 → i < (l.length : Int) → (∀ v ∈ l, okD m v) → Dr (fun k => F6.l0 k i (n : Int) s a q id l) Bd
 | 0, m, l, hm, hl, h1, hv => Dr.step (f := fun _ => some (id, l, a, q)) (fun k => by rw [F6.l0, if_neg (by omega)]) (Dr.now ⟨hid, hl, fun v h => (hv v h).mono (by omega)⟩)
 | n + 1, m, l, hm, hl, h1, hv => by
  have hr := rd66_ok l hv i h0 h1
  refine Dr.step (fun k => by rw [F6.l0, if_pos (by omega), if_pos h0, if_pos h1, wmq n (by omega), if_pos (by have := hr.2; omega)]) ?_
  refine bent_l0 i s a q id hid h0 n (m + 1) _ (by omega) (by rw [List.length_set]; exact hl) (by rw [List.length_set]; exact h1) ?_
  exact set66_ok l (fun v h => (hv v h).mono (by omega)) _ _ ⟨Nat.le_trans hr.1 (by omega), by rw [List.length_append]; have := hr.2; simp; omega⟩
theorem bentA_dr {s : List Int} (hs : BytesOK s) {B a q : Int} (hp : Pq B a q) (hB : B ≤ 50000) (id : ByteArray) (hid : id.size ≤ 10) (l : List S66) (hl : l.length ≤ 5) (hv : ∀ v ∈ l, okD 2 v) :
 Dr (fun k => F33.f k s a q id l) Bd := by
 have none_ : F26.f s a q id l = none → Dr (fun k => F6.f k s a q id l) Bd → Dr (fun k => F33.f k s a q id l) Bd := by
  rintro e ⟨r, ⟨K, h⟩, p⟩
  exact ⟨r, ⟨K, fun k hk => by unfold F33.f; rw [e]; exact h k hk⟩, p⟩
 have some_ : ∀ r, F26.f s a q id l = some r → Bd r → Dr (fun k => F33.f k s a q id l) Bd := by
  intro r e p
  exact ⟨r, ⟨0, fun k hk => by unfold F33.f; rw [e]⟩, p⟩
 have hv40 : ∀ v ∈ l, okD 40 v := fun v h => (hv v h).mono (by omega)
 have whole : Bd (id, l, a, q) := ⟨by show id.size ≤ 100; omega, by show l.length ≤ 6; omega, hv40⟩
 by_cases c0 : (l.length : Int) = 0
 ·refine none_ (by unfold F26.f; rw [if_pos c0]) ?_
  unfold F6.f
  exact Dr.pos c0 (Dr.now whole)
 obtain ⟨v, a1, q1, e1, b0, b1, b2, b3, hq1⟩ := src_next s hs a q (l.length : Int) hp.1 (by have := hp.2.1; omega) hp.2.2 (by omega)
 have hp1 : Pq (B + 3) a1 q1 := ⟨by have := hp.1; omega, by have := hp.2.1; omega, hq1⟩
 obtain ⟨u, a2, q2, e2, d0, d1, d2, d3, hq2⟩ := src_next s hs a1 q1 14 hp1.1 (by have := hp1.2.1; omega) hq1 (by omega)
 have hp2 : Pq (B + 3 + 3) a2 q2 := ⟨by have := hp1.1; omega, by have := hp1.2.1; omega, hq2⟩
 have hr := rd66_ok l hv v b0 b1
 have hsix : F26.f s a q id l = if u = 0 then none else if u = 1 then none else if u = 2 then none else if u = 3 then none else if u = 4 then none else if u = 5 then none else if u = 6 then some (id, l ++ [(⟨(rd_T66 l v).f0, (rd_T66 l v).f1, (rd_T66 l v).f2⟩ : S66)], a2, q2) else some (id, l, a2, q2) := by
  unfold F26.f
  rw [if_neg c0, e1, Option.bind_some]
  dsimp only
  rw [e2, Option.bind_some]
  dsimp only
  rw [if_pos b0, if_pos b1, if_pos (by omega : l.length < 2199023255552)]
 have main : ∀ {P : ByteArray × List S66 × Int × Int → Prop} {g : Nat → Int × Int × Int → Option (ByteArray × List S66 × Int × Int)} , Dr (fun k => g k (u, a2, q2)) P → Dr (fun k => (F1.f s a1 q1 14).bind (g k)) P := by
  rintro P g ⟨r, e, p⟩
  exact ⟨r, Ev.bind (Ev.ofEq e2) e, p⟩
 by_cases u0 : u = 0
 ·refine none_ (by rw [hsix, if_pos u0]) ?_
  unfold F6.f
  refine Dr.neg c0 ?_
  rw [e1]
  refine main ?_
  dsimp only
  refine Dr.pos u0 ?_
  refine Dr.nx hs hp2 (by omega) (by omega) (fun x a3 q3 x0 x1 hp3 => ?_)
  dsimp only
  rw [w64 (by omega) (by omega)]
  obtain ⟨m, hm⟩ : ∃ m : Nat, 30 + x = (m : Int) := ⟨(30 + x).toNat, by omega⟩
  rw [hm]
  refine Dr.bind (repeat_dr _ (by decide) m (by omega)) (fun t ht => ?_)
  refine Dr.list (fun z : List ByteArray => z.length = 4 ∧ ∀ y ∈ z, y.size ≤ 40) ⟨rfl, ?_⟩ (fun z hz => ?_)
  ·intro y hy
   simp only [List.mem_cons, List.not_mem_nil, or_false] at hy
   rcases hy with rfl | rfl | rfl | rfl
   ·decide
   ·decide
   ·decide
   ·omega
  refine Dr.nx hs hp3 (by omega) (by omega) (fun x a4 q4 x0 x1 hp4 => ?_)
  dsimp only
  refine Dr.pos x0 (Dr.pos (by omega) (Dr.now ⟨?_, by show l.length ≤ 6; omega, hv40⟩))
  have := rdOf_sz z 40 hz.2 x
  show (rdOf ByteArray.empty z x).size ≤ 100
  omega
 by_cases u1 : u = 1
 ·refine none_ (by rw [hsix, if_neg u0, if_pos u1]) ?_
  unfold F6.f
  refine Dr.neg c0 ?_
  rw [e1]
  refine main ?_
  dsimp only
  refine Dr.neg u0 (Dr.pos u1 ?_)
  refine Dr.list (fun z : List ByteArray => z.length = 3) rfl (fun z hz => ?_)
  refine Dr.nx hs hp2 (by omega) (by omega) (fun x a3 q3 x0 x1 hp3 => ?_)
  dsimp only
  refine Dr.pos x0 (Dr.pos (by omega) (Dr.pos b0 (Dr.pos b1 (Dr.now ⟨by show id.size ≤ 100; omega, by show (l.set _ _).length ≤ 6; rw [List.length_set]; omega, ?_⟩))))
  exact set66_ok l hv40 _ _ ⟨Nat.le_trans hr.1 (by omega), Nat.le_trans hr.2 (by omega)⟩
 by_cases u2 : u = 2
 ·refine none_ (by rw [hsix, if_neg u0, if_neg u1, if_pos u2]) ?_
  unfold F6.f
  refine Dr.neg c0 ?_
  rw [e1]
  refine main ?_
  dsimp only
  refine Dr.neg u0 (Dr.neg u1 (Dr.pos u2 (Dr.pos b0 (Dr.pos b1 ?_))))
  refine Dr.nx hs hp2 (by omega) (by omega) (fun x a3 q3 x0 x1 hp3 => ?_)
  dsimp only
  obtain ⟨m, hm⟩ : ∃ m : Nat, wrap64 (64 + x) = (m : Int) ∧ m ≤ 100 := ⟨(64 + x).toNat, by rw [w64 (by omega) (by omega)]; omega, by omega⟩
  rw [hm.1]
  refine Dr.bind (repeat_dr _ (by decide) m (by omega)) (fun t ht => ?_)
  refine Dr.nx hs hp3 (by omega) (by omega) (fun x a4 q4 x0 x1 hp4 => ?_)
  dsimp only
  obtain ⟨m2, hm2⟩ : ∃ m : Nat, wrap64 (wrap64 (4000 + x) - 20) = (m : Int) ∧ m ≤ 5000 := ⟨(4000 + x - 20).toNat, by rw [w64 (x := 4000 + x) (by omega) (by omega), w64 (by omega) (by omega)]; omega, by omega⟩
  rw [hm2.1]
  refine Dr.bind (repeat_dr _ (by decide) m2 (by omega)) (fun t2 ht2 => ?_)
  refine Dr.list (fun z : List ByteArray => z.length = 4) rfl (fun z hz => ?_)
  refine Dr.nx hs hp4 (by omega) (by omega) (fun x a5 q5 x0 x1 hp5 => ?_)
  dsimp only
  refine Dr.pos x0 (Dr.pos (by omega) (Dr.pos (by have := hr.1; omega) (Dr.now ⟨by show id.size ≤ 100; omega, by show (l.set _ _).length ≤ 6; rw [List.length_set]; omega, ?_⟩)))
  exact set66_ok l hv40 _ _ ⟨by rw [List.length_append]; have := hr.1; simp; omega, Nat.le_trans hr.2 (by omega)⟩
 by_cases u3 : u = 3
 ·refine none_ (by rw [hsix, if_neg u0, if_neg u1, if_neg u2, if_pos u3]) ?_
  unfold F6.f
  refine Dr.neg c0 ?_
  rw [e1]
  refine main ?_
  dsimp only
  refine Dr.neg u0 (Dr.neg u1 (Dr.neg u2 (Dr.pos u3 (Dr.pos b0 (Dr.pos b1 ?_)))))
  refine Dr.list (fun z : List Int => z.length = 5) rfl (fun z hz => ?_)
  refine Dr.nx hs hp2 (by omega) (by omega) (fun x a3 q3 x0 x1 hp3 => ?_)
  dsimp only
  refine Dr.pos x0 (Dr.pos (by omega) (Dr.pos (by have := hr.2; omega) (Dr.now ⟨by show id.size ≤ 100; omega, by show (l.set _ _).length ≤ 6; rw [List.length_set]; omega, ?_⟩)))
  exact set66_ok l hv40 _ _ ⟨Nat.le_trans hr.1 (by omega), by rw [List.length_append]; have := hr.2; simp; omega⟩
 by_cases u4 : u = 4
 ·refine none_ (by rw [hsix, if_neg u0, if_neg u1, if_neg u2, if_neg u3, if_pos u4]) ?_
  unfold F6.f
  refine Dr.neg c0 ?_
  rw [e1]
  refine main ?_
  dsimp only
  refine Dr.neg u0 (Dr.neg u1 (Dr.neg u2 (Dr.neg u3 (Dr.pos u4 (Dr.pos b0 (Dr.pos b1 (Dr.now ⟨by show id.size ≤ 100; omega, by show (l.set _ _).length ≤ 6; rw [List.length_set]; omega, ?_⟩)))))))
  exact set66_ok l hv40 _ _ ⟨by simp, Nat.le_trans hr.2 (by omega)⟩
 by_cases u5 : u = 5
 ·refine none_ (by rw [hsix, if_neg u0, if_neg u1, if_neg u2, if_neg u3, if_neg u4, if_pos u5]) ?_
  unfold F6.f
  refine Dr.neg c0 ?_
  rw [e1]
  refine main ?_
  dsimp only
  refine Dr.neg u0 (Dr.neg u1 (Dr.neg u2 (Dr.neg u3 (Dr.neg u4 (Dr.pos u5 ?_)))))
  refine Dr.nx hs hp2 (by omega) (by omega) (fun x a3 q3 x0 x1 hp3 => ?_)
  dsimp only
  obtain ⟨m, hm⟩ : ∃ m : Nat, wrap64 (x + 16) = (m : Int) ∧ m ≤ 20 := ⟨(x + 16).toNat, by rw [w64 (by omega) (by omega)]; omega, by omega⟩
  rw [hm.1]
  exact bent_l0 v s a3 q3 id (by omega) b0 m 2 l (by omega) (by omega) b1 hv
 by_cases u6 : u = 6
 ·refine some_ _ (by rw [hsix, if_neg u0, if_neg u1, if_neg u2, if_neg u3, if_neg u4, if_neg u5, if_pos u6]) ⟨by show id.size ≤ 100; omega, by show (l ++ _).length ≤ 6; rw [List.length_append]; simp; omega, ?_⟩
  exact all_snoc hv40 ⟨Nat.le_trans hr.1 (by omega), Nat.le_trans hr.2 (by omega)⟩
 ·exact some_ _ (by rw [hsix, if_neg u0, if_neg u1, if_neg u2, if_neg u3, if_neg u4, if_neg u5, if_neg u6]) ⟨by show id.size ≤ 100; omega, by show l.length ≤ 6; omega, hv40⟩
def Rd (r : Int × Int × ByteArray × ByteArray × List S66) : Prop := r.2.2.1.size ≤ 1000 ∧ r.2.2.2.1.size ≤ 1000 ∧ r.2.2.2.2.length ≤ 1000 ∧ ∀ v ∈ r.2.2.2.2, okD 40 v
theorem record_dr {s : List Int} (hs : BytesOK s) {B a q : Int} (hp : Pq B a q) (hB : B ≤ 1000) (n : Int) :
 Dr (fun k => F37.f k s a q n) (fun r => r.2.2.1.size ≤ 10 ∧ r.2.2.2.1.size ≤ 10 ∧ r.2.2.2.2.1.length ≤ 5 ∧ (∀ v ∈ r.2.2.2.2.1, okD 2 v) ∧ Pq (B + 2000) r.2.2.2.2.2.1 r.2.2.2.2.2.2) := by
 unfold F37.f
 refine Dr.ch hs hp (by omega) (by omega) (fun c a1 q1 hp1 => ?_)
 dsimp only
 refine Dr.ite (fun _ => ?_) (fun _ => ?_)
 ·refine Dr.nx hs hp1 (by omega) (by omega) (fun v a2 q2 b0 b1 hp2 => ?_)
  dsimp only
  refine Dr.bind (dec_dr v b0 b1) (fun t ht => ?_)
  refine Dr.pos (by omega) (Dr.now ⟨?_, by show (⟨#[]⟩ : ByteArray).size ≤ 10; decide, by simp, by simp, hp2.mono (by omega)⟩)
  show ((⟨#[100]⟩ : ByteArray) ++ t).size ≤ 10
  have e : (⟨#[100]⟩ : ByteArray).size = 1 := rfl
  rw [ByteArray.size_append, ht, e]; omega
 ·refine Dr.bind (schema_dr hs hp1 (by omega)) (fun t ht => ?_)
  refine Dr.bind (doc_dr hs t.1 ht.1 ht.2 (by omega)) (fun r hr => ?_)
  exact Dr.now ⟨by show (⟨#[]⟩ : ByteArray).size ≤ 10; decide, hr.1, hr.2.1, hr.2.2.1, hr.2.2.2.mono (by omega)⟩
theorem drawn_dr (l : List Int) (hl : l.length ≤ 1048576) (hb : ∀ x ∈ l, 0 ≤ x ∧ x ≤ 255) : Dr (fun k => F28.f k l) Rd := by
 obtain ⟨q, e, hq⟩ := src_start l hl
 have hs : BytesOK l := ⟨hl, fun i hi => by
  rw [List.getD_eq_getElem?_getD, List.getElem?_eq_getElem hi]
  exact hb _ (List.getElem_mem hi)⟩
 have hp : Pq 0 0 q := ⟨Int.le_refl _, Int.le_refl _, hq⟩
 unfold F28.f
 rw [e]
 refine Dr.list (fun z : List Int × Int × Int => z = (l, 0, q)) rfl (fun z hz => ?_)
 subst hz
 dsimp only
 refine Dr.nx hs hp (by omega) (by omega) (fun v a1 q1 b0 b1 hp1 => ?_)
 dsimp only
 refine Dr.bind (record_dr hs hp1 (by omega) _) (fun r hr => ?_)
 obtain ⟨h1, h2, h3, h4, h5⟩ := hr
 have h40 : ∀ v ∈ r.2.2.2.2.1, okD 40 v := fun v h => (h4 v h).mono (by omega)
 refine Dr.nx hs h5 (by omega) (by omega) (fun u a2 q2 _ _ hp2 => ?_)
 dsimp only
 refine Dr.ite (fun _ => ?_) (fun _ => Dr.ite (fun _ => ?_) (fun _ => Dr.ite (fun _ => ?_) (fun _ => Dr.ite (fun _ => ?_) (fun _ => ?_))))
 ·exact Dr.bind (odd_dr hs hp2 (by omega)) (fun t _ => Dr.now ⟨Nat.le_trans h1 (by omega), Nat.le_trans h2 (by omega), Nat.le_trans h3 (by omega), h40⟩)
 ·exact Dr.nx hs hp2 (by omega) (by omega) (fun x a3 q3 _ _ _ => Dr.now ⟨Nat.le_trans h1 (by omega), Nat.le_trans h2 (by omega), Nat.le_trans h3 (by omega), h40⟩)
 ·refine Dr.list (fun z : List ByteArray => z.length = 3 ∧ ∀ y ∈ z, y.size ≤ 3) ⟨rfl, by decide⟩ (fun z hz => ?_)
  refine Dr.nx hs hp2 (by omega) (by omega) (fun x a3 q3 x0 x1 _ => ?_)
  dsimp only
  exact Dr.pos x0 (Dr.pos (by omega) (Dr.now ⟨Nat.le_trans (rdOf_sz z 3 hz.2 x) (by omega), Nat.le_trans h2 (by omega), Nat.le_trans h3 (by omega), h40⟩))
 ·refine Dr.bind (bentA_dr hs hp2 (by omega) _ h2 _ h3 h4) (fun t ht => Dr.now ⟨Nat.le_trans h1 (by omega), Nat.le_trans ht.1 (by omega), Nat.le_trans ht.2.1 (by omega), ht.2.2⟩)
 ·exact Dr.now ⟨Nat.le_trans h1 (by omega), Nat.le_trans h2 (by omega), Nat.le_trans h3 (by omega), h40⟩

def cat (L : List (S47 × List Int)) : List Int := L.flatMap (fun x => x.2)
def Inv (L : List (S47 × List Int)) (b e : List Int) : Prop :=
 b = cat L ∧ e.length = L.length + 1 ∧ (∀ j, j ≤ L.length → e.getD j 0 = ((cat (L.take j)).length : Int)) ∧ (∀ j (h : j < L.length), okI j L[j]) ∧ b.length ≤ 1048576
theorem cat_snoc (L : List (S47 × List Int)) (x : S47 × List Int) : cat (L ++ [x]) = cat L ++ x.2 := by simp [cat]
theorem cat_split (L : List (S47 × List Int)) (m : Nat) : cat L = cat (L.take m) ++ cat (L.drop m) := by
 conv => lhs; rw [← List.take_append_drop m L]
 simp only [cat, List.flatMap_append]
theorem cat_next (L : List (S47 × List Int)) (m : Nat) (h : m < L.length) : (cat (L.take (m + 1))).length = (cat (L.take m)).length + (L[m]).2.length := by
 rw [List.take_succ_eq_append_getElem h, cat_snoc, List.length_append]
theorem cat_mono (L : List (S47 × List Int)) (m : Nat) : ∀ (d j : Nat), j + d = m → m ≤ L.length → (cat (L.take j)).length ≤ (cat (L.take m)).length
 | 0, j, h, _ => by rw [show j = m by omega]; exact Nat.le_refl _
 | d + 1, j, h, hm => Nat.le_trans (by rw [cat_next L j (by omega)]; omega) (cat_mono L m d (j + 1) (by omega) hm)
theorem cut_at (L : List (S47 × List Int)) (c : Nat) : ∀ (d m : Nat), m + d = L.length → (cat (L.take m)).length ≤ c →
 ∃ m', m' ≤ L.length ∧ (cat (L.take m')).length ≤ c ∧ (m' = L.length ∨ c < (cat (L.take (m' + 1))).length)
 | 0, m, h, hc => ⟨m, by omega, hc, .inl (by omega)⟩
 | d + 1, m, h, hc => by
  by_cases g : c < (cat (L.take (m + 1))).length
  ·exact ⟨m, by omega, hc, .inr g⟩
  ·exact cut_at L c d (m + 1) (by omega) (by omega)
theorem rec_two (K q : Int) (id did : ByteArray) (l : List S66) (hi : id.size ≤ 1048576) (hdi : did.size ≤ 1048576) (hn : l.length ≤ 1048576) (hv : ∀ v ∈ l, okV v) :
 (∃ e : Int, e ≠ 0 ∧ Ev (fun k => F4.f k K q id did l) (([] : List Int), e) ∧ Ev (fun k => F31.f k K q id did l) (([] : List Int), e)) ∨
 (∃ all : List Int, 1 ≤ q ∧ all.length ≤ 1048576 ∧ Ev (fun k => F4.f k K q id did l) (all, 0) ∧ Ev (fun k => F31.f k K q id did l) (all, 0)) := by
 obtain ⟨ok, hok, h⟩ := rec_shape K q id did l hi hdi hn hv
 rcases h with ⟨rfl, hbad⟩ | ⟨rfl, _, part, all, _, hs, _, hsp, him⟩
 ·exact .inl ⟨1, by omega, hbad, by unfold F31.f; exact Ev.bind hok (Ev.neg Bool.false_ne_true (Ev.now _))⟩
 ·by_cases c : (all.length : Int) > 1048576
  ·rw [show outR all = ([], 2) from if_pos c] at him
   exact .inl ⟨2, by omega, him, by unfold F31.f; exact Ev.bind hok (Ev.pos rfl (Ev.bind hsp (Ev.pos c (Ev.now _))))⟩
  ·rw [show outR all = (all, 0) from if_neg c] at him
   exact .inr ⟨all, hs.1, by omega, him, by unfold F31.f; exact Ev.bind hok (Ev.pos rfl (Ev.bind hsp (Ev.neg c (Ev.now _))))⟩
theorem inv_snoc {L : List (S47 × List Int)} {b e : List Int} (h : Inv L b e) (x : S47 × List Int) (hx : okI L.length x) (hb : b.length + x.2.length ≤ 1048576) : Inv (L ++ [x]) (b ++ x.2) (e ++ [((b ++ x.2).length : Int)]) := by
 obtain ⟨h1, h2, h3, h4, h5⟩ := h
 refine ⟨by rw [cat_snoc, h1], by rw [List.length_append, List.length_append, h2]; simp, ?_, ?_, by rw [List.length_append]; exact hb⟩
 ·intro j hj
  rw [List.length_append] at hj
  simp only [List.length_cons, List.length_nil] at hj
  by_cases c : j ≤ L.length
  ·rw [List.take_append_of_le_length c, ← h3 j c, List.getD_eq_getElem?_getD, List.getElem?_append_left (by omega), List.getD_eq_getElem?_getD]
  ·have e1 : j = L.length + 1 := by omega
   subst e1
   rw [List.take_of_length_le (by simp), cat_snoc, h1, List.getD_eq_getElem?_getD, List.getElem?_append_right (by omega), h2]
   simp
 ·intro j hj
  rw [List.length_append] at hj
  simp only [List.length_cons, List.length_nil] at hj
  by_cases c : j < L.length
  ·rw [List.getElem_append_left c]; exact h4 j c
  ·have e1 : j = L.length := by omega
   subst e1
   rw [List.getElem_append_right (Nat.le_refl _)]
   simpa using hx
theorem wadd (a b : Nat) (ha : a ≤ 2000000) (hb : b ≤ 2000000) : wrap64 ((a : Int) + (b : Int)) = ((a + b : Nat) : Int) := wnat a b ha hb
theorem law_j2 (x0 x1 : List Int) (i : Int) (L : List (S47 × List Int)) (b e : List Int) (hI : Inv L b e) (hL : L.length ≤ 1000)
 (next : ∀ L' b' e', Inv L' b' e' → L'.length ≤ L.length + 1 → Ev (fun k => laws_FnLog.l0 k x0 x1 b' e' (wrap64 (i + 1))) true)
 (K q : Int) (id did : ByteArray) (l : List S66) (hi : id.size ≤ 1000) (hdi : did.size ≤ 1000) (hn : l.length ≤ 1000) (hv : ∀ v ∈ l, okD 40 v) (hq : 1 ≤ q → q = (e.length : Int)) :
 Ev (fun k => laws_FnLog.j2 k x0 x1 b e i K q id did l) true := by
 have hv' : ∀ v ∈ l, okV v := fun v h => ⟨Nat.le_trans (hv v h).1 (by omega), Nat.le_trans (hv v h).2 (by omega)⟩
 have stay := next L b e hI (by omega)
 refine Ev.step (fun k => by rw [laws_FnLog.j2]) ?_
 rcases rec_two K q id did l (by omega) (by omega) (by omega) hv' with ⟨c, hc, e1, e2⟩ | ⟨all, q1, hl, e1, e2⟩
 ·refine Ev.bind e1 (Ev.bind e2 (Ev.pos rfl ?_))
  refine Ev.step (fun k => by rw [laws_FnLog.j3]) ?_
  exact Ev.neg (by simp) (Ev.neg hc stay)
 ·refine Ev.bind e1 (Ev.bind e2 (Ev.pos rfl ?_))
  refine Ev.step (fun k => by rw [laws_FnLog.j3]) ?_
  refine Ev.neg (by simp) (Ev.pos rfl ?_)
  have hb := hI.2.2.2.2
  have he := hI.2.1
  have w := wadd b.length all.length (by omega) (by omega)
  by_cases c : wrap64 ((b.length : Int) + (all.length : Int)) ≤ 1048576
  ·refine Ev.pos c (Ev.pos (by show b.length + all.length < _; omega) (Ev.bind (Ev.now _) (Ev.pos (by omega) ?_)))
   rw [w] at c
   exact next _ _ _ (inv_snoc hI (⟨K, q, id, ⟨did, l⟩⟩, all) ⟨by show q = _; rw [hq q1, he], by show id.size ≤ _; omega, by show did.size ≤ _; omega, by show l.length ≤ _; omega, hv', e1⟩ (by show b.length + all.length ≤ _; omega)) (by rw [List.length_append]; exact Nat.le_refl _)
  ·exact Ev.neg c stay
theorem at_ex (l : List Int) (hl : l.length ≤ 1048576) (hb : ∀ x ∈ l, 0 ≤ x ∧ x ≤ 255) (n : Nat) (h1 : 1 ≤ n) (h2 : n ≤ 2000000) : ∃ t : Nat, F49.f l 0 (n : Int) = some (t : Int) ∧ t < n := by
 unfold F49.f
 by_cases c1 : (n : Int) ≤ 1
 ·rw [if_pos c1]; exact ⟨0, rfl, by omega⟩
 rw [if_neg c1]
 have z0 : wrap64 ((0 : Int) * 7) = 0 := by rw [w64 (by omega) (by omega)]; rfl
 have z1 : wrap64 ((0 : Int) + 1) = 1 := by rw [w64 (by omega) (by omega)]; rfl
 by_cases c2 : (l.length : Int) = 0
 ·rw [if_pos c2, if_neg (by omega), z0]
  exact ⟨0, by simp, by omega⟩
 rw [if_neg c2, z1, Int.tmod_eq_emod_of_nonneg (a := 0) (Int.le_refl _), Int.zero_emod, if_pos (Int.le_refl _), if_pos (by omega), Int.tmod_eq_emod_of_nonneg (a := 1) (by omega)]
 have m0 := Int.emod_nonneg 1 c2
 have m1 := Int.emod_lt_of_pos 1 (show (0 : Int) < (l.length : Int) by omega)
 rw [if_pos m0, if_pos m1, if_neg (by omega), Int.zero_tdiv]
 obtain ⟨j, hj⟩ : ∃ j : Nat, (1 : Int) % (l.length : Int) = j := ⟨((1 : Int) % (l.length : Int)).toNat, by omega⟩
 rw [hj]
 have g0 := hb _ (rd_mem l 0 (by omega))
 have g1 := hb _ (rd_mem l j (by omega))
 rw [show ((0 : Nat) : Int) = 0 from rfl] at g0
 generalize rd l 0 = x at g0 ⊢
 generalize rd l (j : Int) = y at g1 ⊢
 have w1 : Aside0 (wrap64 x = x) := ⟨w64 (by omega) (by omega)⟩
 have w2 : Aside0 (wrap64 (x * 31) = x * 31) := ⟨w64 (by omega) (by omega)⟩
 have w3 : Aside0 (wrap64 y = y) := ⟨w64 (by omega) (by omega)⟩
 have w4 : Aside0 (wrap64 (x * 31 + y) = x * 31 + y) := ⟨w64 (by omega) (by omega)⟩
 have w5 : Aside0 (wrap64 (0 : Int) = 0) := ⟨w64 (by omega) (by omega)⟩
 rw [w1.out, w2.out, w3.out, w4.out, w5.out, Int.add_zero, w4.out, Int.tmod_eq_emod_of_nonneg (by omega)]
 have m2 := Int.emod_nonneg (x * 31 + y) (show (n : Int) ≠ 0 by omega)
 have m3 := Int.emod_lt_of_pos (x * 31 + y) (show (0 : Int) < (n : Int) by omega)
 exact ⟨((x * 31 + y) % (n : Int)).toNat, by rw [Int.toNat_of_nonneg m2], by omega⟩
theorem law_l1 (L : List (S47 × List Int)) (b e : List Int) (hI : Inv L b e) (hL : L.length ≤ 1000) (c m : Nat) (hm : m ≤ L.length) (hc : (cat (L.take m)).length ≤ c) (hz : m = L.length ∨ c < (cat (L.take (m + 1))).length)
 (few : List S47) (hf : few.length = m) : ∀ (d j : Nat), j + d = m → Ev (fun k => laws_FnLog.l1 k e (c : Int) few ((cat (L.take m)).length : Int) 0 (j : Int)) true
 | 0, j, h => by
  have hj : j = m := by omega
  subst hj
  have he := hI.2.1
  have e1 := hI.2.2.1 j hm
  have w := wq1 j (by omega)
  have fz0 : Ev (fun _ => (if (0 : Int) = 0 then (if 0 ≤ (j : Int) then (if (j : Int) < (e.length : Int) then (if ((cat (L.take j)).length : Int) = (rd e (j : Int)) then (some ((few.length : Int) == (j : Int))) else (some false)) else (none)) else (none)) else (some false) : Option Bool)) true := by
   refine Ev.pos rfl (Ev.pos (by omega) (Ev.pos (by omega) (Ev.pos (by rw [rd_nat, e1]) ?_)))
   rw [hf, beq_self_eq_true]
   exact Ev.now _
  refine Ev.step (fun k => by rw [laws_FnLog.l1, w]) ?_
  rcases hz with hz | hz
  ·exact Ev.neg (by omega) fz0
  ·by_cases g : j = L.length
   ·exact Ev.neg (by omega) fz0
   ·have e2 := hI.2.2.1 (j + 1) (by omega)
    exact Ev.pos (by omega) (Ev.pos (by omega) (Ev.neg (by rw [rd_nat, e2]; omega) fz0))
 | d + 1, j, h => by
  have he := hI.2.1
  have e2 := hI.2.2.1 (j + 1) (by omega)
  have mo := cat_mono L m d (j + 1) (by omega) hm
  refine Ev.step (fun k => by rw [laws_FnLog.l1, wq1 j (by omega), if_pos (by omega), if_pos (by omega), if_pos (by rw [rd_nat, e2]; omega)]) ?_
  exact law_l1 L b e hI hL c m hm hc hz few hf d (j + 1) (by omega)
theorem log_f (b : List Int) (hl : b.length ≤ 1048576) (L : List (S47 × List Int)) (hL : L.length ≤ 1000) (rest : List Int) (hstop : Ev (fun k => F11.f k rest) noRec) (hb : b = cat L ++ rest) (hok : ∀ j (h : j < L.length), okI j L[j]) :
 Ev (fun k => F21.f k b) (L.map (fun x => x.1), ((cat L).length : Int), 0) := by
 have h := log_back b hl rest hstop L 0 0 [] rfl (by omega) (Nat.zero_le _) (by rw [List.drop_zero]; exact hb) (fun j h => by rw [Nat.zero_add]; exact hok j h)
 rw [Nat.zero_add, List.nil_append] at h
 unfold F21.f
 exact Ev.neg (by omega) h
theorem law_fin (x0 x1 : List Int) (h1 : x1.length ≤ 1048576) (hb1 : ∀ x ∈ x1, 0 ≤ x ∧ x ≤ 255) (L : List (S47 × List Int)) (b e : List Int) (hI : Inv L b e) (hL : L.length ≤ 1000) (i : Int) (hi : ¬ i < 6) :
 Ev (fun k => laws_FnLog.l0 k x0 x1 b e i) true := by
 have hI' := hI
 obtain ⟨i1, i2, i3, i4, i5⟩ := hI'
 refine Ev.step (fun k => by rw [laws_FnLog.l0, if_neg hi]) ?_
 refine Ev.bind (Ev.now _) (Ev.pos (by simp; omega) ?_)
 have r1 := log_f b i5 L hL [] stop_nil (by rw [List.append_nil, i1]) i4
 have le : (L.map (fun x => x.1)).length = L.length := List.length_map _
 have w : wrap64 ((e.length : Int) - 1) = (L.length : Int) := by rw [i2]; exact wmq _ (by omega)
 rw [List.nil_append]
 refine Ev.bind (a := (L.map (fun x => x.1), ((cat L).length : Int), 0)) r1 (Ev.pos rfl (Ev.pos (by rw [i1]) ?_))
 dsimp only
 rw [le, w]
 refine Ev.step (fun k => by rw [laws_FnLog.j4]) ?_
 refine Ev.neg (by simp) ?_
 rw [wq1 b.length (by omega)]
 obtain ⟨c, hc, hcb⟩ := at_ex x1 h1 hb1 (b.length + 1) (by omega) (by omega)
 refine Ev.bind (Ev.ofEq hc) (Ev.pos (by omega) (Ev.pos (by omega) ?_))
 rw [Int.toNat_natCast]
 obtain ⟨m, hm, hmc, hz⟩ := cut_at L c L.length 0 (by omega) (by simp [cat])
 have hsp : b.take c = cat (L.take m) ++ (cat (L.drop m)).take (c - (cat (L.take m)).length) := by
  rw [i1, cat_split L m, List.take_append, List.take_of_length_le hmc]
 have hstop : Ev (fun k => F11.f k ((cat (L.drop m)).take (c - (cat (L.take m)).length))) noRec := by
  by_cases g : m = L.length
  ·rw [g, List.drop_of_length_le (Nat.le_refl _)]
   show Ev (fun k => F11.f k (([] : List Int).take _)) noRec
   rw [List.take_nil]
   exact stop_nil
  ·have g2 : m < L.length := by omega
   rcases hz with hz | hz
   ·exact absurd hz g
   rw [cat_next L m g2] at hz
   obtain ⟨o1, o2, o3, o4, o5, o6⟩ := i4 m g2
   rw [List.drop_eq_getElem_cons g2]
   show Ev (fun k => F11.f k (((L[m]).2 ++ cat (L.drop (m + 1))).take (c - (cat (L.take m)).length))) noRec
   rw [List.take_append_of_le_length (by omega)]
   exact stop_cut _ _ _ _ _ _ _ o2 o3 o4 o5 o6 (by omega)
 have r2 := log_f (b.take c) (by rw [List.length_take]; omega) (L.take m) (by rw [List.length_take]; omega) _ hstop hsp (fun j h => by rw [List.getElem_take]; exact i4 j (by rw [List.length_take] at h; omega))
 refine Ev.bind (a := ((L.take m).map (fun x => x.1), ((cat (L.take m)).length : Int), 0)) r2 ?_
 exact law_l1 L b e hI hL c m hm hmc hz _ (by rw [List.length_map, List.length_take]; omega) m 0 (by omega)
theorem law_l0 (x0 x1 : List Int) (h0 : x0.length ≤ 1048576) (hb0 : ∀ x ∈ x0, 0 ≤ x ∧ x ≤ 255) (h1 : x1.length ≤ 1048576) (hb1 : ∀ x ∈ x1, 0 ≤ x ∧ x ≤ 255) : ∀ (d i : Nat) (L : List (S47 × List Int)) (b e : List Int), i + d = 6 → Inv L b e → L.length ≤ i →
 Ev (fun k => laws_FnLog.l0 k x0 x1 b e (i : Int)) true
 | 0, i, L, b, e, hi, hI, hL => law_fin x0 x1 h1 hb1 L b e hI (by omega) i (by omega)
 | d + 1, i, L, b, e, hi, hI, hL => by
  have next : ∀ L' b' e', Inv L' b' e' → L'.length ≤ L.length + 1 → Ev (fun k => laws_FnLog.l0 k x0 x1 b' e' (wrap64 ((i : Int) + 1))) true := by
   intro L' b' e' hI' hL'
   rw [wq1 i (by omega)]
   exact law_l0 x0 x1 h0 hb0 h1 hb1 d (i + 1) L' b' e' (by omega) hI' (by omega)
  refine Ev.step (fun k => by rw [laws_FnLog.l0, if_pos (by omega)]) ?_
  refine Ev.bind (Ev.now _) ?_
  obtain ⟨m, hm, hm2, hm3⟩ : ∃ m : Nat, mn (x0.length : Int) 50 = m ∧ m ≤ x0.length ∧ m ≤ 50 := by
   refine ⟨min x0.length 50, ?_, by omega, by omega⟩
   unfold mn
   split <;> omega
  rw [hm, Int.toNat_natCast]
  have hlen : ((x0.take m).length : Nat) ≤ 50 := by rw [List.length_take]; omega
  refine Ev.pos (by omega) (Ev.pos (by omega) (Ev.pos (by simp; omega) ?_))
  obtain ⟨r, er, hr1, hr2, hr3, hr4⟩ := drawn_dr ([(wrap64 (60 * (i : Int))) % 256] ++ x0.take m) (by rw [List.length_append]; simp; omega) (fun x hx => by
   rcases List.mem_append.1 hx with hx | hx
   ·rw [List.mem_singleton.1 hx]; omega
   ·exact hb0 x (List.mem_of_mem_take hx))
  refine Ev.bind er ?_
  by_cases c : r.2.1 ≥ 1
  ·exact Ev.pos c (law_j2 x0 x1 i L b e hI (by omega) next _ _ _ _ _ hr1 hr2 hr3 hr4 (fun _ => rfl))
  ·exact Ev.neg c (law_j2 x0 x1 i L b e hI (by omega) next _ _ _ _ _ hr1 hr2 hr3 hr4 (fun h => absurd h c))
theorem FnLog : laws_FnLog.Pure := by
 intro l0 l1 _ _ hw0 _ _ hw1
 refine Ev.rounds (g := fun k => laws_FnLog.f k l0 l1) ?_
 unfold laws_FnLog.f
 by_cases c0 : (l0.length : Int) > 1048576
 ·exact Ev.pos c0 (Ev.step (fun k => by rw [laws_FnLog.j0]) (Ev.pos rfl (Ev.now _)))
 refine Ev.neg c0 ?_
 by_cases c1 : (l1.length : Int) > 1048576
 ·rw [decide_eq_true c1]
  exact Ev.step (fun k => by rw [laws_FnLog.j0]) (Ev.pos rfl (Ev.now _))
 rw [decide_eq_false c1]
 refine Ev.step (fun k => by rw [laws_FnLog.j0]) (Ev.neg Bool.false_ne_true ?_)
 exact law_l0 l0 l1 (by omega) (fun x hx => wf8 (hw0 x hx)) (by omega) (fun x hx => wf8 (hw1 x hx)) 6 0 [] [] [0] rfl ⟨rfl, rfl, fun j hj => by
  have : j = 0 := by simpa using hj
  subst this; rfl, fun j h => by simp at h, by simp⟩ (Nat.le_refl _)

end Go.Proofs.Ytnpdmleglcbobaa.Pure
