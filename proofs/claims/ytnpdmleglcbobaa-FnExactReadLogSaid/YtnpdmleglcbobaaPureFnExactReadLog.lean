/- Whatever the bytes, the program's ReadLog tells what the reference's ReadLog tells, writes into no byte, and hands out memory of its own: the law answers true. No condition. -/
import Derived.Test.YtnpdmleglcbobaaXFnExactReadLogx23
import Derived.Test.YtnpdmleglcbobaaKit
import Derived.Lib.ItoaNum
import Derived.Lib.Bytes
set_option linter.unusedSimpArgs false
set_option linter.unusedVariables false
namespace Go.Proofs.Ytnpdmleglcbobaa.Pure
open Go.RowKit Go.Proofs.Ytnpdmleglcbobaa.XFnExactReadLog Go.Proofs.YtnpdmleglcbobaaW.PrintWords Go.Proofs.YtnpdmleglcbobaaW.PrintLast Go.Proofs.YtnpdmleglcbobaaW.PrintMore Go.Proofs.Ytnpdmleglcbobaa.Kit

theorem Ev.steps {α : Type} {g f : Nat → Option α} {r : α} (c : Nat) (h : ∀ k, g (k + c) = f k) (k : Ev f r) : Ev g r := by
  obtain ⟨K, hK⟩ := k
  refine ⟨K + c, fun n hn => ?_⟩
  have := h (n - c)
  rw [Nat.sub_add_cancel (by omega)] at this
  rw [this]; exact hK _ (by omega)

theorem Ev.pos {α : Type} {c : Prop} [Decidable c] {f g : Nat → Option α} {r : α} (h : c) (k : Ev f r) : Ev (fun n => if c then f n else g n) r := Ev.congr (fun n => if_pos h) k
theorem Ev.neg {α : Type} {c : Prop} [Decidable c] {f g : Nat → Option α} {r : α} (h : ¬ c) (k : Ev g r) : Ev (fun n => if c then f n else g n) r := Ev.congr (fun n => if_neg h) k
theorem Ev.ofEq {α : Type} {x : Option α} {r : α} (h : x = some r) : Ev (fun _ => x) r := ⟨0, fun _ _ => h⟩
theorem Ev.from {α : Type} {g : Nat → Option α} {r : α} (K : Nat) (h : ∀ k, K < k → g k = some r) : Ev g r := ⟨K + 1, fun k hk => h k (by omega)⟩

/-! ### Rows of texts: equal, marked, held -/
theorem wnS (i : Nat) (h : i ≤ 281474976710656) : wrap64 ((i : Int) + 1) = ((i + 1 : Nat) : Int) := by rw [w64 (by omega) (by omega)]; omega
theorem eqSE (xs : List ByteArray) (hn : xs.length ≤ 140737488351232) : Ev (fun k => laws_eqStringS.f k xs xs) true := by
  unfold laws_eqStringS.f
  refine Ev.pos rfl ?_
  have key : ∀ d i, i + d = xs.length → Ev (fun k => laws_eqStringS.l0 k xs xs (i : Int)) true := by
    intro d
    induction d with
    | zero => intro i hi; exact Ev.step (fun k => by rw [laws_eqStringS.l0, if_neg (by omega)]) (Ev.now _)
    | succ d ih =>
      intro i hi
      refine Ev.step (fun k => ?_) (ih (i + 1) (by omega))
      rw [laws_eqStringS.l0, if_pos (by omega), if_pos (by omega), if_pos (by omega), if_pos rfl, wnS i (by omega)]
  exact key xs.length 0 (by omega)
theorem markText_ex (n : Nat) : ∀ acc : ByteArray, acc.size + n ≤ 9223372036854775000 → ∃ t, Ev (fun k => laws_markText.l0 k (n : Int) acc) t := by
  induction n using Nat.strongRecOn with
  | _ n ih =>
    intro acc h
    by_cases c : n = 0
    · subst c
      refine ⟨(⟨#[109]⟩ : ByteArray) ++ acc, Ev.step (fun k => ?_) (Ev.now _)⟩
      rw [laws_markText.l0, if_neg (by omega), if_pos (by omega)]
    · have e0 : wrap64 (Int.tdiv (n : Int) 10) = ((n / 10 : Nat) : Int) := by rw [Int.tdiv_eq_ediv_of_nonneg (by omega), w64 (by omega) (by omega)]; omega
      generalize hy : (strOfNums ([(wrap64 (48 + (Int.tmod (n : Int) 10))) % 256] : List Int)) = y
      have hz : y.size = 1 := by rw [← hy]; simp [strOfNums, ByteArray.size]
      obtain ⟨t, ht⟩ := ih (n / 10) (by omega) (y ++ acc) (by rw [ByteArray.size_append]; omega)
      refine ⟨t, Ev.step (fun k => ?_) ht⟩
      rw [laws_markText.l0, if_pos (by omega), Option.bind_some, hy, if_pos (by omega), e0]
theorem markText_ev (n : Nat) (h : n ≤ 9223372036854775000) : ∃ t, Ev (fun k => laws_markText.f k (n : Int)) t := by
  unfold laws_markText.f
  by_cases c : (n : Int) ≤ 0
  · exact ⟨_, Ev.pos c (Ev.now _)⟩
  · obtain ⟨t, ht⟩ := markText_ex n (⟨#[]⟩ : ByteArray) (by show 0 + n ≤ _; omega)
    exact ⟨t, Ev.neg c ht⟩
theorem marksSE (xs : List ByteArray) (a : Nat) (hn : xs.length ≤ 140737488351232) (ha : a ≤ 140737488351232) : ∃ ys : List ByteArray, ys.length = xs.length ∧ Ev (fun k => laws_markStringS.f k xs (a : Int)) (((a + xs.length : Nat) : Int), ys) ∧ Ev (fun k => laws_heldStringS.f k ys (a : Int)) ((a + xs.length : Nat) : Int) := by
  have hc : ∀ i : Nat, ∃ t, i ≤ 9223372036854775000 → Ev (fun k => laws_markText.f k (i : Int)) t := by
    intro i
    by_cases h : i ≤ 9223372036854775000
    · obtain ⟨t, ht⟩ := markText_ev i h; exact ⟨t, fun _ => ht⟩
    · exact ⟨ByteArray.empty, fun h' => absurd h' h⟩
  obtain ⟨mt, hmt⟩ : ∃ mt : Nat → ByteArray, ∀ i : Nat, i ≤ 9223372036854775000 → Ev (fun k => laws_markText.f k (i : Int)) (mt i) := ⟨fun i => Classical.choose (hc i), fun i => Classical.choose_spec (hc i)⟩
  let full := (List.range xs.length).map (fun i => mt (a + i))
  have hfl : full.length = xs.length := by simp [full]
  have hmark : ∀ d i, i + d = xs.length → Ev (fun k => laws_markStringS.l0 k (full.take i ++ xs.drop i) ((a + i : Nat) : Int) (i : Int)) (((a + xs.length : Nat) : Int), full) := by
    intro d
    induction d with
    | zero =>
      intro i hi
      obtain rfl : i = xs.length := by omega
      refine Ev.step (fun k => ?_) (Ev.now _)
      rw [laws_markStringS.l0, if_neg (by simp; omega), List.drop_length, List.append_nil, List.take_of_length_le (by omega)]
    | succ d ih =>
      intro i hi
      have hi' : i < xs.length := by omega
      refine Ev.step (f := fun k => (laws_markText.f k ((a + i : Nat) : Int)).bind fun t => laws_markStringS.l0 k ((full.take i ++ xs.drop i).set i t) ((a + (i + 1) : Nat) : Int) ((i + 1 : Nat) : Int)) (fun k => ?_) (Ev.bind (hmt (a + i) (by omega)) ?_)
      · rw [laws_markStringS.l0, if_pos (by simp; omega), wnS (a + i) (by omega), wnS i (by omega)]
        congr 1
      · have e : (full.take i ++ xs.drop i).set i (mt (a + i)) = full.take (i + 1) ++ xs.drop (i + 1) := by
          rw [List.set_append_right i (mt (a + i)) (by simp; omega)]
          simp only [List.length_take]
          rw [Nat.min_eq_left (by omega), Nat.sub_self, List.drop_eq_getElem_cons hi', List.set_cons_zero, List.take_succ_eq_append_getElem (by omega), List.append_assoc]
          have : full[i]'(by omega) = mt (a + i) := by simp [full]
          rw [this]; rfl
        rw [e]; exact ih (i + 1) (by omega)
  have hheld : ∀ d i, i + d = xs.length → Ev (fun k => laws_heldStringS.l0 k full ((a + i : Nat) : Int) (i : Int)) ((a + xs.length : Nat) : Int) := by
    intro d
    induction d with
    | zero =>
      intro i hi
      obtain rfl : i = xs.length := by omega
      refine Ev.step (fun k => ?_) (Ev.now _)
      rw [laws_heldStringS.l0, if_neg (by omega)]
    | succ d ih =>
      intro i hi
      have hi' : i < full.length := by omega
      have hr : rdOf ByteArray.empty full (i : Int) = mt (a + i) := by
        rw [rdOf, Int.toNat_natCast, List.getD_eq_getElem?_getD, List.getElem?_eq_getElem hi']
        simp [full]
      refine Ev.step (f := fun k => (laws_markText.f k ((a + i : Nat) : Int)).bind fun t => if (rdOf ByteArray.empty full (i : Int)).toList = t.toList then laws_heldStringS.l0 k full ((a + (i + 1) : Nat) : Int) ((i + 1 : Nat) : Int) else some (-1)) (fun k => ?_) (Ev.bind (hmt (a + i) (by omega)) ?_)
      · rw [laws_heldStringS.l0, if_pos (by omega), if_pos (by omega), wnS (a + i) (by omega), wnS i (by omega)]; rfl
      · exact Ev.pos (by rw [hr]) (ih (i + 1) (by omega))
  refine ⟨full, hfl, ?_, hheld xs.length 0 (by omega)⟩
  have h := hmark xs.length 0 (by omega)
  rw [List.take_zero, List.nil_append, List.drop_zero] at h
  exact h

/-! ### Documents: their sizes, copies, bytes -/
theorem wnD (i : Nat) (h : i ≤ 281474976710656) : wrap64 ((i : Int) + 1) = ((i + 1 : Nat) : Int) := by rw [w64 (by omega) (by omega)]; omega
theorem n0 : ((0 : Nat) : Int) = 0 := rfl
theorem rdS_at (xs : List ByteArray) (i : Nat) (h : i < xs.length) : rdOf ByteArray.empty xs (i : Int) = xs[i] := by
  rw [rdOf, Int.toNat_natCast, List.getD_eq_getElem?_getD, List.getElem?_eq_getElem h]; rfl
theorem rd66_at (xs : List S66) (i : Nat) (h : i < xs.length) : rd_T66 xs (i : Int) = xs[i] := by
  unfold rd_T66
  rw [Int.toNat_natCast, List.getD_eq_getElem?_getD, List.getElem?_eq_getElem h]; rfl
theorem rdI_at (xs : List Int) (i : Nat) (h : i < xs.length) : rd xs (i : Int) = xs[i] := rd_lt xs i h
theorem flat_len {α : Type} (f : α → List Int) (B : Nat) (l : List α) (h : ∀ x ∈ l, (f x).length ≤ B) : (l.flatMap f).length ≤ l.length * B := by
  induction l with
  | nil => simp
  | cons a l ih =>
    have h1 := h a (List.mem_cons_self ..)
    have h2 := ih (fun x hx => h x (List.mem_cons_of_mem _ hx))
    rw [List.flatMap_cons, List.length_append, List.length_cons, Nat.add_mul]; omega
def pb (n : Int) : List Int := vb 8 n
theorem pb_len (n : Int) : 1 ≤ (pb n).length ∧ (pb n).length ≤ 9 := vb_length 8 n
theorem putS_ev (n : Int) (h0 : 0 ≤ n) (h1 : n ≤ 9000000000000000000) : Ev (fun k => spec_l03Put.f k n) (pb n) :=
  ⟨9, fun k hk => put_spec spec_l03Put.f (fun _ _ => rfl) 8 (by omega) k n h0 (by rw [pow128_8]; omega) (by omega)⟩
theorem putI_ev (pre : List Int) (n : Int) (hp : pre.length ≤ 140737488355000) (h0 : 0 ≤ n) (h1 : n ≤ 9000000000000000000) : Ev (fun k => impl_putInt.f k pre n) (pre ++ pb n) :=
  ⟨9, fun k hk => put_impl impl_putInt.l0 (fun _ _ _ => rfl) 8 (by omega) k pre n (by omega) h0 (by rw [pow128_8]; omega) (by omega)⟩
def tb (t : ByteArray) : List Int := pb (t.size : Int) ++ bytesOf t
theorem tb_len (t : ByteArray) : (tb t).length ≤ 9 + t.size := by
  unfold tb
  rw [List.length_append, bytesOf_length]
  have := pb_len (t.size : Int); omega
theorem putTS_ev (pre : List Int) (t : ByteArray) (h : pre.length + t.size ≤ 140737488355000) : Ev (fun k => spec_l06PutText.f k pre t) (pre ++ tb t) := by
  have hp := pb_len (t.size : Int)
  unfold spec_l06PutText.f
  refine Ev.bind (putS_ev _ (by omega) (by omega)) ?_
  refine Ev.pos (by omega) ?_
  simp only [Option.bind_some]
  refine Ev.pos (by rw [List.length_append]; omega) ?_
  unfold tb
  rw [List.append_assoc]
  exact Ev.now _
theorem putTI_ev (pre : List Int) (t : ByteArray) (h : pre.length + t.size ≤ 140737488354900) : Ev (fun k => impl_putText.f k pre t) (pre ++ tb t) := by
  have hp := pb_len (t.size : Int)
  unfold impl_putText.f
  refine Ev.bind (putI_ev pre _ (by omega) (by omega) (by omega)) ?_
  refine Ev.pos (by rw [List.length_append]; omega) ?_
  unfold tb
  rw [List.append_assoc]
  exact Ev.now _
def nv (n : Int) : Int := if n < 0 then -2 * n - 1 else 2 * n
def numOK (n : Int) : Bool := decide (-1000000000000 ≤ n ∧ n ≤ 1000000000000)
theorem nv_ok (n : Int) (h : numOK n = true) : 0 ≤ nv n ∧ nv n ≤ 2000000000000 := by
  have := of_decide_eq_true h
  unfold nv; split <;> omega
def nb (n : Int) : List Int := pb (nv n)
def txtOK (t : ByteArray) : Bool := decide (t.size ≤ 65536)
def valOK (v : S66) : Bool := decide (v.f0.size ≤ 65536 ∧ v.f1.length ≤ 4096 ∧ v.f2.length ≤ 4096) && (v.f1.all txtOK && v.f2.all numOK)
def fits (id : ByteArray) (l : List S66) : Bool := decide (id.size ≤ 65536 ∧ l.length ≤ 4096) && l.all valOK
def vbytes (v : S66) : List Int := tb v.f0 ++ (pb (v.f1.length : Int) ++ (v.f1.flatMap tb ++ (pb (v.f2.length : Int) ++ v.f2.flatMap nb)))
def dbytes (id : ByteArray) (l : List S66) : List Int := tb id ++ (pb (l.length : Int) ++ l.flatMap vbytes)
theorem valOK_parts (v : S66) (h : valOK v = true) : v.f0.size ≤ 65536 ∧ v.f1.length ≤ 4096 ∧ v.f2.length ≤ 4096 ∧ (∀ t ∈ v.f1, t.size ≤ 65536) ∧ ∀ n ∈ v.f2, numOK n = true := by
  unfold valOK at h
  rw [Bool.and_eq_true, Bool.and_eq_true] at h
  obtain ⟨h1, h2, h3⟩ := h
  obtain ⟨g1, g2, g3⟩ := of_decide_eq_true h1
  exact ⟨g1, g2, g3, fun t ht => of_decide_eq_true (List.all_eq_true.1 h2 t ht), fun n hn => List.all_eq_true.1 h3 n hn⟩
theorem vbytes_len (v : S66) (h : valOK v = true) : (vbytes v).length ≤ 300000000 := by
  obtain ⟨g1, g2, g3, g4, g5⟩ := valOK_parts v h
  have e1 := tb_len v.f0
  have e2 := pb_len (v.f1.length : Int)
  have e3 := flat_len tb 65545 v.f1 (fun t ht => by have := tb_len t; have := g4 t ht; omega)
  have e4 := pb_len (v.f2.length : Int)
  have e5 := flat_len nb 9 v.f2 (fun n _ => (pb_len _).2)
  have e6 : v.f1.length * 65545 ≤ 4096 * 65545 := Nat.mul_le_mul_right _ g2
  have e7 : v.f2.length * 9 ≤ 4096 * 9 := Nat.mul_le_mul_right _ g3
  unfold vbytes
  simp only [List.length_append]
  omega
theorem dbytes_len (id : ByteArray) (l : List S66) (h : fits id l = true) : (dbytes id l).length ≤ 2000000000000 := by
  unfold fits at h
  rw [Bool.and_eq_true] at h
  obtain ⟨h1, h2⟩ := of_decide_eq_true h.1
  have e1 := tb_len id
  have e2 := pb_len (l.length : Int)
  have e3 := flat_len vbytes 300000000 l (fun v hv => vbytes_len v (List.all_eq_true.1 h.2 v hv))
  have e4 : l.length * 300000000 ≤ 4096 * 300000000 := Nat.mul_le_mul_right _ h2
  unfold dbytes
  simp only [List.length_append]
  omega
theorem drop_at {α : Type} (l : List α) (i : Nat) (h : i < l.length) : l.drop i = l[i] :: l.drop (i + 1) := List.drop_eq_getElem_cons h
/-- Lists within an element: short enough to be counted. -/
def okV (v : S66) : Prop := v.f1.length ≤ 1048576 ∧ v.f2.length ≤ 1048576
theorem valOK_f (v : S66) (h : ¬ (v.f0.size ≤ 65536 ∧ v.f1.length ≤ 4096 ∧ v.f2.length ≤ 4096)) : valOK v = false := by unfold valOK; rw [decide_eq_false h, Bool.false_and]
theorem valOK_t (v : S66) (h : v.f0.size ≤ 65536 ∧ v.f1.length ≤ 4096 ∧ v.f2.length ≤ 4096) : valOK v = (v.f1.all txtOK && v.f2.all numOK) := by unfold valOK; rw [decide_eq_true h, Bool.true_and]
theorem fits_f (id : ByteArray) (l : List S66) (h : ¬ (id.size ≤ 65536 ∧ l.length ≤ 4096)) : fits id l = false := by unfold fits; rw [decide_eq_false h, Bool.false_and]
theorem fits_t (id : ByteArray) (l : List S66) (h : id.size ≤ 65536 ∧ l.length ≤ 4096) : fits id l = l.all valOK := by unfold fits; rw [decide_eq_true h, Bool.true_and]
/-! the reference's look at the bounds -/
theorem fits2_ev (id : ByteArray) (l : List S66) (i : Nat) (v : S66) (hv : okV v) (r : Bool) (hc : Ev (fun k => spec_l06Fits.l0 k (wrap64 ((i : Int) + 1)) id l) r) (d : Nat) : ∀ j, j + d = v.f2.length → Ev (fun k => spec_l06Fits.l2 k (i : Int) (j : Int) id l v.f0 v.f1 v.f2) (if (v.f2.drop j).all numOK then r else false) := by
  obtain ⟨h1, h2⟩ := hv
  induction d with
  | zero =>
    intro j hj
    rw [List.drop_of_length_le (by omega)]
    exact Ev.step (fun k => by rw [spec_l06Fits.l2, if_neg (by omega)]) hc
  | succ d ih =>
    intro j hj
    rw [drop_at _ j (by omega), List.all_cons]
    refine Ev.step (fun k => by rw [spec_l06Fits.l2, if_pos (by omega), if_pos (by omega), rdI_at _ _ (by omega), wnD j (by omega)]) ?_
    unfold numOK
    by_cases c1 : v.f2[j] < -1000000000000
    · rw [decide_eq_false (by omega), Bool.false_and]; exact Ev.pos c1 (Ev.now _)
    · by_cases c2 : v.f2[j] > 1000000000000
      · rw [decide_eq_false (by omega), Bool.false_and]; exact Ev.neg c1 (Ev.pos c2 (Ev.now _))
      · rw [decide_eq_true (by omega), Bool.true_and]; exact Ev.neg c1 (Ev.neg c2 (ih (j + 1) (by omega)))
theorem fits1_ev (id : ByteArray) (l : List S66) (i : Nat) (v : S66) (hv : okV v) (r : Bool) (hc : Ev (fun k => spec_l06Fits.l0 k (wrap64 ((i : Int) + 1)) id l) r) (d : Nat) : ∀ j, j + d = v.f1.length → Ev (fun k => spec_l06Fits.l1 k (i : Int) (j : Int) id l v.f0 v.f1 v.f2) (if (v.f1.drop j).all txtOK && v.f2.all numOK then r else false) := by
  have h1 := hv.1
  induction d with
  | zero =>
    intro j hj
    rw [List.drop_of_length_le (by omega)]
    have h := fits2_ev id l i v hv r hc v.f2.length 0 (by omega)
    rw [List.drop_zero, n0] at h
    exact Ev.step (fun k => by rw [spec_l06Fits.l1, if_neg (by omega)]) h
  | succ d ih =>
    intro j hj
    rw [drop_at _ j (by omega), List.all_cons]
    refine Ev.step (fun k => by rw [spec_l06Fits.l1, if_pos (by omega), if_pos (by omega), rdS_at _ _ (by omega), wnD j (by omega)]) ?_
    unfold txtOK
    by_cases c : ((v.f1[j]).size : Int) > 65536
    · rw [decide_eq_false (by omega), Bool.false_and, Bool.false_and]; exact Ev.pos c (Ev.now _)
    · rw [decide_eq_true (by omega), Bool.true_and]; exact Ev.neg c (ih (j + 1) (by omega))
theorem fits0_ev (id : ByteArray) (l : List S66) (hn : l.length ≤ 1048576) (hl : ∀ v ∈ l, okV v) (d : Nat) : ∀ i, i + d = l.length → Ev (fun k => spec_l06Fits.l0 k (i : Int) id l) ((l.drop i).all valOK) := by
  induction d with
  | zero =>
    intro i hi
    rw [List.drop_of_length_le (by omega)]
    exact Ev.step (f := fun _ => some true) (fun k => by rw [spec_l06Fits.l0, if_neg (by omega)]) (Ev.now _)
  | succ d ih =>
    intro i hi
    have hv := hl _ (List.getElem_mem (show i < l.length by omega))
    have hc := ih (i + 1) (by omega)
    rw [← wnD i (by omega)] at hc
    rw [drop_at _ i (by omega), List.all_cons]
    refine Ev.step (fun k => by rw [spec_l06Fits.l0, if_pos (by omega), if_pos (by omega), rd66_at _ _ (by omega)]) ?_
    generalize l[i]'(by omega) = v at hv ⊢
    by_cases c1 : (v.f0.size : Int) > 65536
    · rw [valOK_f v (by omega), Bool.false_and]
      exact Ev.pos c1 (Ev.step (fun k => by rw [spec_l06Fits.j2]) (Ev.pos rfl (Ev.now _)))
    · refine Ev.neg c1 ?_
      by_cases c2 : (v.f1.length : Int) > 4096
      · rw [valOK_f v (by omega), Bool.false_and]
        exact Ev.pos c2 (Ev.step (fun k => by rw [spec_l06Fits.j2]) (Ev.pos rfl (Ev.now _)))
      · refine Ev.neg c2 (Ev.step (fun k => by rw [spec_l06Fits.j2]) ?_)
        by_cases c3 : (v.f2.length : Int) > 4096
        · rw [valOK_f v (by omega), Bool.false_and, decide_eq_true c3]
          exact Ev.pos rfl (Ev.now _)
        · rw [valOK_t v (by omega), decide_eq_false c3]
          refine Ev.neg Bool.false_ne_true ?_
          have h := fits1_ev id l i v hv _ hc v.f1.length 0 (by omega)
          rw [List.drop_zero, n0] at h
          cases hb : (v.f1.all txtOK && v.f2.all numOK) with
          | true => rw [hb] at h; rw [Bool.true_and]; exact h
          | false => rw [hb] at h; rw [Bool.false_and]; exact h
theorem fits_ev (id : ByteArray) (l : List S66) (hn : l.length ≤ 1048576) (hl : ∀ v ∈ l, okV v) : Ev (fun k => spec_l06Fits.f k id l) (fits id l) := by
  unfold spec_l06Fits.f
  by_cases c1 : (id.size : Int) > 65536
  · rw [fits_f id l (by omega)]
    exact Ev.pos c1 (Ev.step (fun k => by rw [spec_l06Fits.j0]) (Ev.pos rfl (Ev.now _)))
  · refine Ev.neg c1 (Ev.step (fun k => by rw [spec_l06Fits.j0]) ?_)
    by_cases c2 : (l.length : Int) > 4096
    · rw [fits_f id l (by omega), decide_eq_true c2]
      exact Ev.pos rfl (Ev.now _)
    · rw [fits_t id l (by omega), decide_eq_false c2]
      have h := fits0_ev id l hn hl l.length 0 (by omega)
      rw [List.drop_zero, n0] at h
      exact Ev.neg Bool.false_ne_true h
/-! the reference's bytes -/
theorem putNS_ev (pre : List Int) (n : Int) (hn : numOK n = true) (h : pre.length ≤ 140737488355000) : Ev (fun k => spec_l06PutNumber.f k pre n) (pre ++ nb n) := by
  have hv := nv_ok n hn
  have hb := of_decide_eq_true hn
  unfold spec_l06PutNumber.f
  by_cases c : n < 0
  · have e1 : wrap64 ((-2) * n) = -2 * n := w64 (by omega) (by omega)
    have e2 : wrap64 (-2 * n - 1) = nv n := by rw [w64 (by omega) (by omega)]; unfold nv; rw [if_pos c]
    rw [e1, e2]
    have := pb_len (nv n)
    exact Ev.pos c (Ev.bind (putS_ev _ hv.1 (by omega)) (Ev.pos (by omega) (Ev.now _)))
  · have e2 : wrap64 (2 * n) = nv n := by rw [w64 (by omega) (by omega)]; unfold nv; rw [if_neg c]
    rw [e2]
    have := pb_len (nv n)
    exact Ev.neg c (Ev.bind (putS_ev _ hv.1 (by omega)) (Ev.pos (by omega) (Ev.now _)))
theorem by2_ev (id : ByteArray) (l : List S66) (i : Nat) (v : S66) (h2 : v.f2.length ≤ 4096) (hN : ∀ n ∈ v.f2, numOK n = true) (r : List Int) (d : Nat) : ∀ j pre, j + d = v.f2.length → pre.length + 9 * d ≤ 140737488350000 →
    Ev (fun k => spec_l06Bytes.l0 k (pre ++ (v.f2.drop j).flatMap nb) (wrap64 ((i : Int) + 1)) id l) r → Ev (fun k => spec_l06Bytes.l2 k pre (i : Int) (j : Int) id l v.f0 v.f1 v.f2) r := by
  induction d with
  | zero =>
    intro j pre hj hp hc
    rw [List.drop_of_length_le (by omega), List.flatMap_nil, List.append_nil] at hc
    exact Ev.step (fun k => by rw [spec_l06Bytes.l2, if_neg (by omega)]) hc
  | succ d ih =>
    intro j pre hj hp hc
    rw [drop_at _ j (by omega), List.flatMap_cons, ← List.append_assoc] at hc
    refine Ev.step (fun k => by rw [spec_l06Bytes.l2, if_pos (by omega), if_pos (by omega), rdI_at _ _ (by omega), wnD j (by omega)]) ?_
    have hq := (pb_len (nv (v.f2[j]'(by omega)))).2
    refine Ev.bind (putNS_ev pre _ (hN _ (List.getElem_mem _)) (by omega)) ?_
    exact ih (j + 1) _ (by omega) (by rw [List.length_append]; unfold nb; omega) hc
theorem by1_ev (id : ByteArray) (l : List S66) (i : Nat) (v : S66) (h1 : v.f1.length ≤ 4096) (h2 : v.f2.length ≤ 4096) (hT : ∀ t ∈ v.f1, t.size ≤ 65536) (hN : ∀ n ∈ v.f2, numOK n = true) (r : List Int) (d : Nat) : ∀ j pre, j + d = v.f1.length → pre.length + 65545 * d ≤ 140737488300000 →
    Ev (fun k => spec_l06Bytes.l0 k (pre ++ ((v.f1.drop j).flatMap tb ++ (pb (v.f2.length : Int) ++ v.f2.flatMap nb))) (wrap64 ((i : Int) + 1)) id l) r → Ev (fun k => spec_l06Bytes.l1 k pre (i : Int) (j : Int) id l v.f0 v.f1 v.f2) r := by
  induction d with
  | zero =>
    intro j pre hj hp hc
    have hq := pb_len (v.f2.length : Int)
    rw [List.drop_of_length_le (by omega), List.flatMap_nil, List.nil_append, ← List.append_assoc] at hc
    refine Ev.step (fun k => by rw [spec_l06Bytes.l1, if_neg (by omega)]) ?_
    refine Ev.bind (putS_ev _ (by omega) (by omega)) (Ev.pos (by omega) ?_)
    exact by2_ev id l i v h2 hN r v.f2.length 0 _ (by omega) (by rw [List.length_append]; omega) (by rw [List.drop_zero]; exact hc)
  | succ d ih =>
    intro j pre hj hp hc
    rw [drop_at _ j (by omega), List.flatMap_cons, List.append_assoc, ← List.append_assoc] at hc
    refine Ev.step (fun k => by rw [spec_l06Bytes.l1, if_pos (by omega), if_pos (by omega), rdS_at _ _ (by omega), wnD j (by omega)]) ?_
    have ht := hT _ (List.getElem_mem (show j < v.f1.length by omega))
    have hq := tb_len (v.f1[j]'(by omega))
    refine Ev.bind (putTS_ev pre _ (by omega)) ?_
    exact ih (j + 1) _ (by omega) (by rw [List.length_append]; omega) hc
theorem by0_ev (id : ByteArray) (l : List S66) (hn : l.length ≤ 4096) (hl : ∀ v ∈ l, valOK v = true) (d : Nat) : ∀ i pre, i + d = l.length → pre.length + 300000000 * d ≤ 140737480000000 → Ev (fun k => spec_l06Bytes.l0 k pre (i : Int) id l) (pre ++ (l.drop i).flatMap vbytes) := by
  induction d with
  | zero =>
    intro i pre hi hp
    rw [List.drop_of_length_le (by omega), List.flatMap_nil, List.append_nil]
    exact Ev.step (fun k => by rw [spec_l06Bytes.l0, if_neg (by omega)]) (Ev.now _)
  | succ d ih =>
    intro i pre hi hp
    have hv := hl _ (List.getElem_mem (show i < l.length by omega))
    rw [drop_at _ i (by omega), List.flatMap_cons]
    refine Ev.step (fun k => by rw [spec_l06Bytes.l0, if_pos (by omega), if_pos (by omega), rd66_at _ _ (by omega)]) ?_
    generalize l[i]'(by omega) = v at hv ⊢
    have hvl := vbytes_len v hv
    obtain ⟨g1, g2, g3, g4, g5⟩ := valOK_parts v hv
    have e1 := tb_len v.f0
    have e2 := pb_len (v.f1.length : Int)
    have hc := ih (i + 1) (pre ++ vbytes v) (by omega) (by rw [List.length_append]; omega)
    rw [← wnD i (by omega)] at hc
    refine Ev.bind (putTS_ev pre _ (by omega)) ?_
    refine Ev.bind (putS_ev _ (by omega) (by omega)) ?_
    refine Ev.pos (by rw [List.length_append]; omega) ?_
    refine by1_ev id l i v g2 g3 g4 g5 _ v.f1.length 0 _ (by omega) (by simp only [List.length_append]; omega) ?_
    rw [List.drop_zero]
    have e : pre ++ tb v.f0 ++ pb (v.f1.length : Int) ++ (v.f1.flatMap tb ++ (pb (v.f2.length : Int) ++ v.f2.flatMap nb)) = pre ++ vbytes v := by unfold vbytes; simp only [List.append_assoc]
    rw [e, ← List.append_assoc]
    exact hc
theorem bytes_ev (id : ByteArray) (l : List S66) (h : fits id l = true) : Ev (fun k => spec_l06Bytes.f k id l) (dbytes id l) := by
  unfold fits at h
  rw [Bool.and_eq_true] at h
  obtain ⟨h1, h2⟩ := of_decide_eq_true h.1
  have e1 := tb_len id
  have e2 := pb_len (l.length : Int)
  unfold spec_l06Bytes.f
  have h0 := putTS_ev [] id (by simp; omega)
  rw [List.nil_append] at h0
  refine Ev.bind h0 ?_
  refine Ev.bind (putS_ev _ (by omega) (by omega)) ?_
  refine Ev.pos (by omega) ?_
  have hb := by0_ev id l h2 (List.all_eq_true.1 h.2) l.length 0 (tb id ++ pb (l.length : Int)) (by omega) (by rw [List.length_append]; omega)
  rw [List.drop_zero, List.append_assoc] at hb
  exact hb
def docTell (id : ByteArray) (l : List S66) : List Int × Int := if fits id l = true then (dbytes id l, 0) else ([], 12)
theorem docTell_len (id : ByteArray) (l : List S66) : (docTell id l).1.length ≤ 2000000000000 := by
  unfold docTell
  split
  · rename_i h; exact dbytes_len id l h
  · simp

/-! ### Documents: alike -/
def okW (v : S66) : Prop := v.f1.length ≤ 4096 ∧ v.f2.length ≤ 4096
theorem okW_V {v : S66} (h : okW v) : okV v := ⟨Nat.le_trans h.1 (by omega), Nat.le_trans h.2 (by omega)⟩
theorem eqI_ev (xs : List Int) (hn : xs.length ≤ 1048576) : Ev (fun k => laws_eqIntS.f k xs xs) true := by
  unfold laws_eqIntS.f
  exact Ev.pos rfl (Ev.from xs.length (fun k hk => eqS_all laws_eqIntS.l0 (fun _ _ _ _ => rfl) xs (by omega) k hk))
theorem eqVS_ev (l : List S66) (hn : l.length ≤ 1048576) (h : ∀ v ∈ l, okV v) : Ev (fun k => laws_eqValueS.f k l l) true := by
  unfold laws_eqValueS.f
  refine Ev.pos rfl ?_
  have key : ∀ d i, i + d = l.length → Ev (fun k => laws_eqValueS.l0 k l l (i : Int)) true := by
    intro d
    induction d with
    | zero => intro i hi; exact Ev.step (fun k => by rw [laws_eqValueS.l0, if_neg (by omega)]) (Ev.now _)
    | succ d ih =>
      intro i hi
      have hi' : i < l.length := by omega
      have hv := h _ (List.getElem_mem hi')
      refine Ev.step (fun k => by rw [laws_eqValueS.l0, if_pos (by omega), if_pos (by omega), if_pos (by omega), rd66_at l i hi', wnD i (by omega)]) ?_
      refine Ev.bind (a := true) ?_ (Ev.pos rfl (ih (i + 1) (by omega)))
      unfold laws_eqValue.f
      exact Ev.pos rfl (Ev.bind (eqSE _ (by have := hv.1; omega)) (Ev.pos rfl (Ev.bind (eqI_ev _ hv.2) (Ev.pos rfl (Ev.now _)))))
  exact key l.length 0 (by omega)
theorem eqDoc_ev (id : ByteArray) (l : List S66) (hn : l.length ≤ 1048576) (h : ∀ v ∈ l, okV v) : Ev (fun k => laws_eqDoc.f k id l id l) true := by
  unfold laws_eqDoc.f
  exact Ev.pos rfl (Ev.bind (eqVS_ev l hn h) (Ev.pos rfl (Ev.now _)))
theorem eqB_ev (xs : List Int) (hn : xs.length ≤ 140737488351232) : Ev (fun k => laws_eqByteS.f k xs xs) true := by
  unfold laws_eqByteS.f
  exact Ev.pos rfl (Ev.from xs.length (fun k hk => eqS_all laws_eqByteS.l0 (fun _ _ _ _ => rfl) xs (by omega) k hk))

/-! ### Documents: marked and held -/
theorem marksIE (xs : List Int) (a : Nat) (h : a + xs.length ≤ 9223372036854775806) : ∃ ys : List Int, ys.length = xs.length ∧ Ev (fun k => laws_markIntS.f k xs (a : Int)) (((a + xs.length : Nat) : Int), ys) ∧ Ev (fun k => laws_heldIntS.f k ys (a : Int)) ((a + xs.length : Nat) : Int) := by
  obtain ⟨ys, h1, h2, h3⟩ := marks (fun x => x) laws_markIntS.l0 laws_heldIntS.l0 (fun _ _ _ _ => rfl) (fun _ _ _ _ => rfl) xs a h
  exact ⟨ys, h1, Ev.from xs.length h2, Ev.from xs.length h3⟩
theorem markVH (n : Nat) (hn : n ≤ 1048576) (d : Nat) : ∀ (i a : Nat) (ys : List S66), i + d = n → ys.length = n → (∀ v ∈ ys.drop i, okW v) → a + 8193 * d ≤ 140737488000000 →
    ∃ (r : Nat) (zs : List S66), Ev (fun k => laws_markValueS.l0 k ys (a : Int) (i : Int)) ((r : Int), zs) ∧ zs.length = n ∧ r ≤ a + 8193 * d ∧ (∀ j, j < i → zs[j]? = ys[j]?) ∧ Ev (fun k => laws_heldValueS.l0 k zs (a : Int) (i : Int)) (r : Int) := by
  induction d with
  | zero =>
    intro i a ys hi hl _ _
    exact ⟨a, ys, Ev.step (fun k => by rw [laws_markValueS.l0, if_neg (by omega)]) (Ev.now _), hl, by omega, fun _ _ => rfl, Ev.step (fun k => by rw [laws_heldValueS.l0, if_neg (by omega)]) (Ev.now _)⟩
  | succ d ih =>
    intro i a ys hi hl hv ha
    have hi' : i < ys.length := by omega
    have hv0 := hv ys[i] (by rw [drop_at _ i hi']; exact List.mem_cons_self ..)
    obtain ⟨t, ht⟩ := markText_ev a (by omega)
    obtain ⟨ss, hs1, hs2, hs3⟩ := marksSE ys[i].f1 (a + 1) (by have := hv0.1; omega) (by omega)
    obtain ⟨ns, hn1, hn2, hn3⟩ := marksIE ys[i].f2 (a + 1 + ys[i].f1.length) (by have := hv0.1; have := hv0.2; omega)
    obtain ⟨r, zs, hr, hzl, hrb, hzj, hz⟩ := ih (i + 1) (a + 1 + ys[i].f1.length + ys[i].f2.length) (ys.set i ⟨t, ss, ns⟩) (by omega) (by rw [List.length_set]; exact hl) (fun v hv' => hv v (by
      rw [List.drop_set, if_pos (by omega)] at hv'
      rw [drop_at _ i hi']
      exact List.mem_cons_of_mem _ hv')) (by have := hv0.1; have := hv0.2; omega)
    have hzi : zs[i]? = some ⟨t, ss, ns⟩ := by
      rw [hzj i (by omega), List.getElem?_set_self hi']
    have hzi' : i < zs.length := by omega
    have hze : zs[i] = ⟨t, ss, ns⟩ := by
      rw [List.getElem?_eq_getElem hzi'] at hzi
      exact Option.some.inj hzi
    refine ⟨r, zs, Ev.step (fun k => by rw [laws_markValueS.l0, if_pos (by omega), rd66_at ys i hi', wnD i (by omega), wnD a (by omega), Int.toNat_natCast]) ?_, hzl, by have := hv0.1; have := hv0.2; omega, fun j hj => ?_, ?_⟩
    · exact Ev.bind ht (Ev.pos (by omega) (Ev.bind hs2 (Ev.bind hn2 hr)))
    · rw [hzj j (by omega), List.getElem?_set_ne (by omega)]
    · refine Ev.step (fun k => by rw [laws_heldValueS.l0, if_pos (by omega), if_pos (by omega), rd66_at zs i hzi', hze, wnD i (by omega), wnD a (by omega)]) ?_
      exact Ev.bind ht (Ev.pos rfl (Ev.bind hs3 (Ev.neg (by omega) (Ev.bind hn3 (Ev.neg (by omega) hz)))))
theorem toB_ev (xs : List Int) (hn : xs.length ≤ 140737488351232) : Ev (fun k => laws_toByteS.f k xs) xs := by
  unfold laws_toByteS.f
  refine Ev.pos (by omega) (Ev.pos (by omega) ?_)
  rw [Int.toNat_natCast]
  exact Ev.from xs.length (fun k hk => toS_all laws_toByteS.l0 (fun _ _ _ _ => rfl) xs (by omega) k hk)
theorem markB_ev (xs : List Int) (hn : xs.length ≤ 140737488351232) : ∃ ys : List Int, Ev (fun k => laws_markByteS.f k xs 1) (((1 + xs.length : Nat) : Int), ys) := by
  obtain ⟨ys, h1, h2, h3⟩ := markS_from (fun x => x % 256) laws_markByteS.l0 (fun _ _ _ _ => rfl) xs.length 1 (by omega) xs.length (xs.length + 1) 0 xs rfl (by omega) (fun j hj => by omega) (by omega)
  refine ⟨ys, Ev.from xs.length fun k hk => ?_⟩
  obtain ⟨ys', h1', h2', h3'⟩ := markS_from (fun x => x % 256) laws_markByteS.l0 (fun _ _ _ _ => rfl) xs.length 1 (by omega) xs.length k 0 xs rfl (by omega) (fun j hj => by omega) hk
  have : ys' = ys := get_ext (h2'.trans h2.symm) (fun j hj => by rw [h3' j (by omega), h3 j (by omega)])
  subst this
  exact h1'

/-- What the two tell alike: a number, the place behind it, and whether there is one. -/
def tell (r : Int × Int × Bool) : Int × Int × Int := if r.2.2 = true then (r.1, r.2.1, 0) else (0, 0, 3)

theorem pw (n : Nat) (h : n ≤ 8) : 0 < (128 : Int) ^ n ∧ (128 : Int) ^ n ≤ 72057594037927936 ∧ (2 : Int) ^ (7 * n) = 128 ^ n := by
  refine ⟨Int.pow_pos (by decide), ?_, ?_⟩
  · have h1 : (128 : Nat) ^ n ≤ 128 ^ 8 := Nat.pow_le_pow_right (by decide) h
    have e9 : (128 : Nat) ^ 8 = 72057594037927936 := by decide
    rw [e9] at h1
    have h2 := Int.ofNat_le.2 h1
    rw [Int.natCast_pow] at h2
    exact h2
  · rw [Int.pow_mul]; rfl

theorem shl_at (c : Int) (n : Nat) (hn : n ≤ 8) (h0 : 0 ≤ c) (h1 : c ≤ 127) : shl .i64 c (7 * (n : Int)) = c * 128 ^ n := by
  obtain ⟨hp0, hp1, hp2⟩ := pw n hn
  unfold shl
  have e : min (7 * (n : Int)).toNat IntKind.i64.bits = 7 * n := by
    have : IntKind.i64.bits = 64 := rfl
    omega
  rw [e, hp2]
  have hq : c * 128 ^ n ≤ 127 * 128 ^ n := Int.mul_le_mul_of_nonneg_right h1 (by omega)
  have hq0 : 0 ≤ c * 128 ^ n := Int.mul_nonneg h0 (by omega)
  rw [IntKind.wrap_i64]; omega

/-- One step of each of the two, up to its tests: p stands for 128 ^ n. -/
theorem stepS (b : List Int) (at' n : Nat) (v c p : Int) (hl : b.length ≤ 1048576) (hin : at' + n < b.length) (hn : n ≤ 8) (hc : rd b ((at' + n : Nat) : Int) = c) (hc0 : 0 ≤ c) (hc1 : c ≤ 255)
    (hp0 : 0 < p) (hp1 : p ≤ 72057594037927936) (hv0 : 0 ≤ v) (hv1 : v < p) (k : Nat) :
    spec_l03Get.l0 (k + 3) b at' v p n = if (if n = 8 then decide (c > 63) else false) = true then some (0, 0, false) else if c < 128 then (if (n : Int) = 0 then some (v + c % 128 * p, ((at' + n + 1 : Nat) : Int), true) else some (v + c % 128 * p, ((at' + n + 1 : Nat) : Int), decide (c > 0))) else (if (n : Int) < 8 then spec_l03Get.l0 k b at' (v + c % 128 * p) (wrap64 (p * 128)) ((n + 1 : Nat) : Int) else spec_l03Get.l0 k b at' (v + c % 128 * p) p ((n + 1 : Nat) : Int)) := by
  have hadd : wrap64 ((at' : Int) + (n : Int)) = ((at' + n : Nat) : Int) := by rw [w64 (by omega) (by omega)]; omega
  have hlt : decide (wrap64 ((at' : Int) + (n : Int)) < (b.length : Int)) = true := by rw [hadd]; exact decide_eq_true (by omega)
  have hnx : wrap64 (((at' + n : Nat) : Int) + 1) = ((at' + n + 1 : Nat) : Int) := by rw [w64 (by omega) (by omega)]; omega
  have hn1 : wrap64 ((n : Int) + 1) = ((n + 1 : Nat) : Int) := by rw [w64 (by omega) (by omega)]; omega
  have hc7 : c % 128 ≤ 127 := by omega
  have hq : c % 128 * p ≤ 127 * p := Int.mul_le_mul_of_nonneg_right hc7 (by omega)
  have hq0 : 0 ≤ c % 128 * p := Int.mul_nonneg (by omega) (by omega)
  have hsp : wrap64 (v + wrap64 ((Int.tmod c 128) * p)) = v + c % 128 * p := by
    rw [Int.tmod_eq_emod_of_nonneg hc0, w64 (x := c % 128 * p) (by omega) (by omega), w64 (by omega) (by omega)]
  rw [spec_l03Get.l0, if_pos (by omega), hlt, spec_l03Get.j1, if_pos rfl, hadd, if_pos (by omega), if_pos (by omega), hc, w64 (x := c) (by omega) (by omega)]
  by_cases h8 : n = 8
  · rw [if_pos (by omega), if_pos h8, spec_l03Get.j2, hadd, hsp, hnx, hn1]
  · rw [if_neg (by omega), if_neg h8, spec_l03Get.j2, hadd, hsp, hnx, hn1]

theorem stepI (b : List Int) (at' n : Nat) (v c p : Int) (hl : b.length ≤ 1048576) (hin : at' + n < b.length) (hn : n ≤ 8) (hc : rd b ((at' + n : Nat) : Int) = c) (hc0 : 0 ≤ c) (hc1 : c ≤ 255)
    (hp0 : 0 < p) (hp1 : p ≤ 72057594037927936) (hp2 : Aside0 ((2 : Int) ^ (7 * n) = p)) (hsh : Aside0 (shl .i64 (c % 128) (7 * (n : Int)) = c % 128 * p)) (hv0 : 0 ≤ v) (hv1 : v < p) (k : Nat) :
    impl_GetInt.l0 (k + 2) b at' v n = if c < 128 then (if v + c % 128 * p > 4611686018427387903 then some (0, 0, 3) else if v + c % 128 * p < 0 then some (0, 0, 3) else if c = 0 then (if (n : Int) > 0 then some (0, 0, 3) else some (v + c % 128 * p, ((at' + n + 1 : Nat) : Int), 0)) else some (v + c % 128 * p, ((at' + n + 1 : Nat) : Int), 0)) else impl_GetInt.l0 k b at' (v + c % 128 * p) ((n + 1 : Nat) : Int) := by
  have hadd : wrap64 ((at' : Int) + (n : Int)) = ((at' + n : Nat) : Int) := by rw [w64 (by omega) (by omega)]; omega
  have hlt : decide (wrap64 ((at' : Int) + (n : Int)) < (b.length : Int)) = true := by rw [hadd]; exact decide_eq_true (by omega)
  have hnx : wrap64 (((at' + n : Nat) : Int) + 1) = ((at' + n + 1 : Nat) : Int) := by rw [w64 (by omega) (by omega)]; omega
  have hn1 : wrap64 ((n : Int) + 1) = ((n + 1 : Nat) : Int) := by rw [w64 (by omega) (by omega)]; omega
  have hc7 : c % 128 ≤ 127 := by omega
  have hq : c % 128 * p ≤ 127 * p := Int.mul_le_mul_of_nonneg_right hc7 (by omega)
  have hq0 : 0 ≤ c % 128 * p := Int.mul_nonneg (by omega) (by omega)
  have hshift : (0 : Int) ≤ wrap64 (7 * (n : Int)) := by rw [w64 (by omega) (by omega)]; omega
  have hor : Go.bits .or .i64 v (shl .i64 (wrap64 (Go.bits .and .u8 c 127)) (wrap64 (7 * (n : Int)))) = v + c % 128 * p := by
    have b1 : v < 2 ^ 63 := by omega
    have b2 : c % 128 * p < 2 ^ 63 := by omega
    have b3 : 7 * n ≤ 62 := by omega
    have b4 : wrap64 (7 * (n : Int)) = 7 * (n : Int) := w64 (by omega) (by omega)
    have b5 : wrap64 (c % 128) = c % 128 := w64 (by omega) (by omega)
    have b6 : Go.bits .and .u8 c 127 = c % 128 := and127 _ hc0 (by omega)
    have hm : c % 128 * p % 2 ^ (7 * n) = 0 := by rw [hp2.out]; exact Int.mul_emod_left _ _
    have hv2 : v < 2 ^ (7 * n) := by rw [hp2.out]; exact hv1
    rw [b6, b5, b4, hsh.out, or_comm64 _ _ hv0 b1 hq0 b2, or_join (7 * n) b3 _ _ hq0 hm b2 hv0 hv2, Int.add_comm]
  rw [impl_GetInt.l0, if_pos (by omega), hlt, impl_GetInt.j1, if_pos rfl, hadd, if_pos (by omega), if_pos (by omega), if_pos hshift, hc, hor, hnx, hn1]

/-- What is known of a number that is read from a place. -/
def GotAt (b : List Int) (at' n : Nat) (r : Int × Int × Bool) : Prop :=
  r.2.2 = true → 0 ≤ r.1 ∧ r.1 ≤ 4611686018427387903 ∧ ∃ m : Nat, n ≤ m ∧ m ≤ 8 ∧ at' + m < b.length ∧ r.2.1 = ((at' + m + 1 : Nat) : Int) ∧ b.getD (at' + m) 0 < 128 ∧ ∀ j, n ≤ j → j < m → ¬ b.getD (at' + j) 0 < 128

theorem both (b : List Int) (at' : Nat) (hl : b.length ≤ 1048576) (hat : at' ≤ b.length) (hb : ∀ x ∈ b, 0 ≤ x ∧ x ≤ 255) (d : Nat) : ∀ (n : Nat) (v : Int), n + d = 9 → 0 ≤ v → v < 128 ^ n →
    ∃ r : Int × Int × Bool, GotAt b at' n r ∧ ∀ k, 3 * d + 3 ≤ k → spec_l03Get.l0 k b at' v (128 ^ (min n 8)) n = some r ∧ impl_GetInt.l0 k b at' v n = some (tell r) := by
  induction d with
  | zero =>
    intro n v hn h0 h1
    refine ⟨(0, 0, false), (fun h => by cases h), fun k hk => ?_⟩
    obtain ⟨k, rfl⟩ : ∃ m, k = m + 2 := ⟨k - 2, by omega⟩
    constructor
    · rw [spec_l03Get.l0, if_neg (by omega), spec_l03Get.j1, if_neg (by decide)]
    · rw [impl_GetInt.l0, if_neg (by omega), impl_GetInt.j1, if_neg (by decide)]; rfl
  | succ d ih =>
    intro n v hn h0 h1
    have en : min n 8 = n := by omega
    rw [en]
    by_cases hin : at' + n < b.length
    · have hr := hb _ (rd_mem b (at' + n) hin)
      obtain ⟨hp0, hp1, hp2⟩ := pw n (by omega)
      obtain ⟨c, hc⟩ : ∃ c, rd b ((at' + n : Nat) : Int) = c := ⟨_, rfl⟩
      have hcD : b.getD (at' + n) 0 = c := by rw [← hc, rd_nat]
      rw [hc] at hr
      have hSt := stepS b at' n v c (128 ^ n) hl hin (by omega) hc hr.1 hr.2 hp0 hp1 h0 h1
      have hIt := stepI b at' n v c (128 ^ n) hl hin (by omega) hc hr.1 hr.2 hp0 hp1 ⟨hp2⟩ ⟨shl_at (c % 128) n (by omega) (by omega) (by omega)⟩ h0 h1
      have hc7 : c % 128 ≤ 127 := by omega
      have hq : c % 128 * 128 ^ n ≤ 127 * 128 ^ n := Int.mul_le_mul_of_nonneg_right hc7 (by omega)
      have hq0 : 0 ≤ c % 128 * 128 ^ n := Int.mul_nonneg (by omega) (by omega)
      have hnp : ((128 : Int) ^ n) * 128 = 128 ^ (n + 1) := (Int.pow_succ _ _).symm
      by_cases h8 : n = 8
      · have e8 : (128 : Int) ^ n = 72057594037927936 := by rw [h8]; rfl
        rw [e8] at hSt hIt h1 hq hq0 ⊢
        by_cases h63 : c > 63
        · refine ⟨(0, 0, false), (fun h => by cases h), fun k hk => ?_⟩
          obtain ⟨k, rfl⟩ : ∃ m, k = m + 4 := ⟨k - 4, by omega⟩
          constructor
          · rw [hSt (k + 1), if_pos h8, if_pos (decide_eq_true h63)]
          · rw [hIt (k + 2)]
            by_cases hc1 : c < 128
            · rw [if_pos hc1, if_pos (by omega)]; rfl
            · rw [if_neg hc1, impl_GetInt.l0, if_neg (by omega), impl_GetInt.j1, if_neg (by decide)]; rfl
        · have hd : ¬ (decide (c > 63) = true) := by simpa using h63
          refine ⟨(v + c % 128 * 72057594037927936, ((at' + n + 1 : Nat) : Int), decide (c > 0)), ?_, fun k hk => ?_⟩
          · intro _
            exact ⟨by simp only; omega, by simp only; omega, n, Nat.le_refl _, by omega, hin, rfl, by rw [hcD]; omega, fun j hj hj' => by omega⟩
          obtain ⟨k, rfl⟩ : ∃ m, k = m + 4 := ⟨k - 4, by omega⟩
          constructor
          · rw [hSt (k + 1), if_pos h8, if_neg hd, if_pos (by omega), if_neg (by omega)]
          · rw [hIt (k + 2), if_pos (by omega), if_neg (by omega), if_neg (by omega)]
            by_cases hc0 : c = 0
            · subst hc0; rw [if_pos rfl, if_pos (by omega)]; rfl
            · have hp : decide (c > 0) = true := decide_eq_true (by omega)
              rw [if_neg hc0]; simp [tell, hp]
      · obtain ⟨hq3, hq4, _⟩ := pw (n + 1) (by omega)
        generalize hpp : (128 : Int) ^ n = p at *
        by_cases hc1 : c < 128
        · refine ⟨(v + c % 128 * p, ((at' + n + 1 : Nat) : Int), decide (n = 0 ∨ c > 0)), ?_, fun k hk => ?_⟩
          · intro _
            exact ⟨by simp only; omega, by simp only; omega, n, Nat.le_refl _, by omega, hin, rfl, by rw [hcD]; omega, fun j hj hj' => by omega⟩
          obtain ⟨k, rfl⟩ : ∃ m, k = m + 4 := ⟨k - 4, by omega⟩
          constructor
          · rw [hSt (k + 1), if_neg h8, if_neg (by decide), if_pos hc1]
            by_cases hz : n = 0
            · rw [if_pos (by omega)]; simp [hz]
            · rw [if_neg (by omega)]; simp [hz]
          · rw [hIt (k + 2), if_pos hc1, if_neg (by omega), if_neg (by omega)]
            by_cases hc0 : c = 0
            · rw [if_pos hc0]
              by_cases hz : n = 0
              · rw [if_neg (by omega)]; simp [tell, hz]
              · rw [if_pos (by omega)]; simp [tell, hz, hc0]
            · have : c > 0 := by omega
              rw [if_neg hc0]; simp [tell, this]
        · obtain ⟨r, hG, hr'⟩ := ih (n + 1) (v + c % 128 * p) (by omega) (by omega) (by rw [← hnp]; omega)
          refine ⟨r, ?_, fun k hk => ?_⟩
          · intro h
            obtain ⟨g1, g2, m, g3, g4, g5, g6, g7, g8⟩ := hG h
            refine ⟨g1, g2, m, by omega, g4, g5, g6, g7, fun j hj hj' => ?_⟩
            by_cases e : j = n
            · rw [e, hcD]; exact hc1
            · exact g8 j (by omega) hj'
          obtain ⟨k, rfl⟩ : ∃ m, k = m + 3 := ⟨k - 3, by omega⟩
          constructor
          · rw [hSt k, if_neg h8, if_neg (by decide), if_neg hc1, if_pos (by omega), w64 (x := p * 128) (by omega) (by omega), hnp]
            have e2 : min (n + 1) 8 = n + 1 := by omega
            have := (hr' k (by omega)).1
            rwa [e2] at this
          · rw [hIt (k + 1), if_neg hc1]
            exact (hr' (k + 1) (by omega)).2
    · have hlt : decide (wrap64 ((at' : Int) + (n : Int)) < (b.length : Int)) = false := by rw [w64 (by omega) (by omega)]; exact decide_eq_false (by omega)
      refine ⟨(0, 0, false), (fun h => by cases h), fun k hk => ?_⟩
      obtain ⟨k, rfl⟩ : ∃ m, k = m + 2 := ⟨k - 2, by omega⟩
      constructor
      · rw [spec_l03Get.l0, if_pos (by omega), hlt, spec_l03Get.j1, if_neg (by decide)]
      · rw [impl_GetInt.l0, if_pos (by omega), hlt, impl_GetInt.j1, if_neg (by decide)]; rfl

/-- A number read at a place: what the two make of it. -/
theorem get_at (b : List Int) (n : Nat) (hl : b.length ≤ 1048576) (hn : n ≤ b.length) (hb : ∀ x ∈ b, 0 ≤ x ∧ x ≤ 255) :
    ∃ r : Int × Int × Bool, GotAt b n 0 r ∧ Ev (fun k => spec_l03Get.f k b (n : Int)) r ∧ Ev (fun k => impl_GetInt.f k b (n : Int)) (tell r) := by
  obtain ⟨r, hG, hr⟩ := both b n hl hn hb 9 0 0 (by omega) (by omega) (by decide)
  refine ⟨r, hG, ⟨30, fun k hk => (hr k hk).1⟩, ⟨30, fun k hk => ?_⟩⟩
  show impl_GetInt.f k b (n : Int) = some (tell r)
  unfold impl_GetInt.f impl_within.f
  rw [if_neg (by omega), if_pos (by omega), decide_eq_true (by omega)]
  simp only [Option.bind_some, if_true]
  exact (hr k hk).2

theorem drop_cons {b : List Int} {a : Nat} {x : Int} {t : List Int} (h : b.drop a = x :: t) : b.getD a 0 = x ∧ b.drop (a + 1) = t := by
  have hlt : a < b.length := by
    rcases Nat.lt_or_ge a b.length with h' | h'
    · exact h'
    · rw [List.drop_of_length_le h'] at h; cases h
  rw [List.drop_eq_getElem_cons hlt] at h
  injection h with h1 h2
  refine ⟨?_, h2⟩
  rw [List.getD_eq_getElem?_getD, List.getElem?_eq_getElem hlt]; exact h1
def okNum (v : Int) : Prop := 0 ≤ v ∧ v ≤ 4611686018427387903
/-! ### A number's bytes are read back -/
theorem gi_vb (b : List Int) (at' : Nat) (hl : b.length ≤ 1048576) (d : Nat) : ∀ (n : Nat) (v a : Int) (t : List Int), n + d = 8 → b.drop (at' + n) = vb d a ++ t → 0 ≤ a → a < 128 ^ (d + 1) → (n = 0 ∨ 0 < a) → 0 ≤ v → v < 128 ^ n → v + a * 128 ^ n ≤ 4611686018427387903 →
    ∀ k, 2 * d + 2 ≤ k → impl_GetInt.l0 k b at' v n = some (v + a * 128 ^ n, ((at' + n + (vb d a).length : Nat) : Int), 0) := by
  have small : ∀ (n : Nat) (v a : Int) (t : List Int), n ≤ 8 → b.drop (at' + n) = a :: t → 0 ≤ a → a < 128 → (n = 0 ∨ 0 < a) → 0 ≤ v → v < 128 ^ n → v + a * 128 ^ n ≤ 4611686018427387903 → ∀ k, 2 ≤ k → impl_GetInt.l0 k b at' v n = some (v + a * 128 ^ n, ((at' + n + 1 : Nat) : Int), 0) := by
    intro n v a t hn hd h0 h1 hz hv0 hv1 hm k hk
    obtain ⟨m, rfl⟩ : ∃ m, k = m + 2 := ⟨k - 2, by omega⟩
    obtain ⟨f1, f2⟩ := drop_cons hd
    have hin : at' + n < b.length := by
      have := congrArg List.length hd
      simp at this
      omega
    obtain ⟨p0, p1, p2⟩ := pw n hn
    have e := stepI b at' n v a (128 ^ n) hl hin hn (by rw [rd_nat]; exact f1) h0 (by omega) p0 p1 ⟨p2⟩ ⟨shl_at _ n hn (by omega) (by omega)⟩ hv0 hv1 m
    have ea : a % 128 = a := Int.emod_eq_of_lt h0 h1
    rw [ea] at e
    have hq : 0 ≤ a * 128 ^ n := Int.mul_nonneg h0 (by omega)
    rw [e, if_pos h1, if_neg (by omega), if_neg (by omega)]
    by_cases c : a = 0
    · rw [if_pos c, if_neg (by omega)]
    · rw [if_neg c]
  induction d with
  | zero =>
    intro n v a t hn hd h0 h1 hz hv0 hv1 hm k hk
    simp at h1
    exact small n v a t (by omega) hd h0 h1 hz hv0 hv1 hm k (by omega)
  | succ d ih =>
    intro n v a t hn hd h0 h1 hz hv0 hv1 hm k hk
    have es : (128 : Int) ^ (d + 1 + 1) = 128 ^ (d + 1) * 128 := Int.pow_succ _ _
    rw [es] at h1
    by_cases c : a < 128
    · have ev : vb (d + 1) a = [a] := by rw [vb, if_pos c]
      rw [ev] at hd ⊢
      exact small n v a t (by omega) hd h0 c hz hv0 hv1 hm k (by omega)
    · have ev : vb (d + 1) a = (128 + a % 128) :: vb d (a / 128) := by rw [vb, if_neg c]
      rw [ev] at hd ⊢
      rw [List.cons_append] at hd
      obtain ⟨f1, f2⟩ := drop_cons hd
      have hin : at' + n < b.length := by
        have := congrArg List.length hd
        simp at this
        omega
      obtain ⟨p0, p1, p2⟩ := pw n (by omega)
      have es2 : (128 : Int) ^ (n + 1) = 128 ^ n * 128 := Int.pow_succ _ _
      obtain ⟨m, rfl⟩ : ∃ m, k = m + 2 := ⟨k - 2, by omega⟩
      have e := stepI b at' n v (128 + a % 128) (128 ^ n) hl hin (by omega) (by rw [rd_nat]; exact f1) (by omega) (by omega) p0 p1 ⟨p2⟩ ⟨shl_at _ n (by omega) (by omega) (by omega)⟩ hv0 hv1 m
      have ea : (128 + a % 128) % 128 = a % 128 := by omega
      rw [ea] at e
      have h127 : a % 128 * 128 ^ n ≤ 127 * 128 ^ n := Int.mul_le_mul_of_nonneg_right (by omega) (by omega)
      have hq0 : 0 ≤ a % 128 * 128 ^ n := Int.mul_nonneg (by omega) (by omega)
      have key : v + a % 128 * 128 ^ n + a / 128 * 128 ^ (n + 1) = v + a * 128 ^ n := by
        rw [es2, Int.mul_comm (128 ^ n) 128, ← Int.mul_assoc, Int.add_assoc, ← Int.add_mul]
        congr 2
        omega
      have := ih (n + 1) (v + a % 128 * 128 ^ n) (a / 128) t (by omega) (by rw [← Nat.add_assoc]; exact f2) (by omega) (by omega) (.inr (by omega)) (by omega) (by rw [es2]; omega) (by rw [key]; exact hm) m (by omega)
      rw [e, if_neg (by omega), this, key, List.length_cons]
      congr 3
      omega
theorem get_vb (b : List Int) (at' : Nat) (hl : b.length ≤ 1048576) (hat : at' ≤ b.length) (a : Int) (t : List Int) (hd : b.drop at' = vb 8 a ++ t) (ha : okNum a) : Ev (fun k => impl_GetInt.f k b (at' : Int)) (a, ((at' + (vb 8 a).length : Nat) : Int), 0) := by
  refine ⟨20, fun k hk => ?_⟩
  have h9 : (128 : Int) ^ (8 + 1) = 9223372036854775808 := by decide
  have h := gi_vb b at' hl 8 0 0 a t (by omega) hd ha.1 (by rw [h9]; have := ha.2; omega) (.inl rfl) (by omega) (by decide) (by rw [Int.pow_zero, Int.mul_one]; have := ha.2; omega) k (by omega)
  show impl_GetInt.f k b (at' : Int) = _
  unfold impl_GetInt.f impl_within.f
  rw [if_neg (by omega), if_pos (by omega), decide_eq_true (by omega)]
  simp only [Option.bind_some, if_true]
  rw [Int.pow_zero, Int.mul_one, Int.zero_add] at h
  exact h
theorem Ev_uniq {α : Type} {f : Nat → Option α} {x y : α} (h : Ev f x) (g : Ev f y) : x = y := by
  obtain ⟨a, ha⟩ := h
  obtain ⟨c, hc⟩ := g
  have h1 := ha (a + c) (by omega)
  have h2 := hc (a + c) (by omega)
  rw [h1] at h2
  exact Option.some.inj h2
/-! ### Packed and unpacked -/
theorem str_inj : ∀ (x y : List Int), (∀ v ∈ x, 0 ≤ v ∧ v ≤ 255) → (∀ v ∈ y, 0 ≤ v ∧ v ≤ 255) → (strOfNums x).toList = (strOfNums y).toList → x = y := by
  intro x y hx hy h
  rw [Lib.strOfNums_toList, Lib.strOfNums_toList] at h
  unfold Lib.bytesOf at h
  induction x generalizing y with
  | nil => cases y with
    | nil => rfl
    | cons b y => cases h
  | cons a x ih =>
    cases y with
    | nil => cases h
    | cons b y =>
      simp only [List.map_cons, List.cons.injEq] at h
      have h1 := hx a List.mem_cons_self
      have h2 := hy b List.mem_cons_self
      have h3 := congrArg UInt8.toNat h.1
      simp only [UInt8.toNat_ofNat'] at h3
      have e : a = b := by omega
      rw [e, ih y (fun v hv => hx v (List.mem_cons_of_mem _ hv)) (fun v hv => hy v (List.mem_cons_of_mem _ hv)) h.2]

/-! ### A number's bytes: all but the last have the top bit -/

/-! ### Reading a document: what both readers tell -/
def Told (b : List Int) (n : Nat) (o : Option (Int × Nat)) : Prop := match o with
  | none => (∃ x y : Int, Ev (fun k => spec_l03Get.f k b (n : Int)) (x, y, false)) ∧ Ev (fun k => impl_GetInt.f k b (n : Int)) (0, 0, 3)
  | some (v, m) => 0 ≤ v ∧ v ≤ 4611686018427387903 ∧ n < m ∧ m ≤ b.length ∧ Ev (fun k => spec_l03Get.f k b (n : Int)) (v, (m : Int), true) ∧ Ev (fun k => impl_GetInt.f k b (n : Int)) (v, (m : Int), 0)
theorem told_ex (b : List Int) (hl : b.length ≤ 1048576) (hb : ∀ x ∈ b, 0 ≤ x ∧ x ≤ 255) : ∃ num : Nat → Option (Int × Nat), ∀ n, n ≤ b.length → Told b n (num n) := by
  have h : ∀ n, ∃ o, n ≤ b.length → Told b n o := by
    intro n
    by_cases hn : n ≤ b.length
    · obtain ⟨⟨v, x, ok⟩, hG, hs, hi⟩ := get_at b n hl hn hb
      cases ok with
      | false => exact ⟨none, fun _ => ⟨⟨v, x, hs⟩, hi⟩⟩
      | true =>
        obtain ⟨h0, h1, m, _, _, hm, hx, _⟩ := hG rfl
        simp only at h0 h1 hx
        subst hx
        exact ⟨some (v, n + m + 1), fun _ => ⟨h0, h1, by omega, by omega, hs, hi⟩⟩
    · exact ⟨none, fun h => absurd h hn⟩
  exact ⟨fun n => Classical.choose (h n), fun n hn => Classical.choose_spec (h n) hn⟩
def numOf (v : Int) : Int := if Int.tmod v 2 = 1 then wrap64 (Int.tdiv (wrap64 (-(wrap64 (v + 1)))) 2) else wrap64 (Int.tdiv v 2)
section
variable (b : List Int) (num : Nat → Option (Int × Nat))
def rtext (n : Nat) : Option (ByteArray × Nat) := match num n with
  | none => none
  | some (v, m) => if v > 65536 ∨ (m : Int) + v > (b.length : Int) then none else some (strOfNums ((b.take (m + v.toNat)).drop m), m + v.toNat)
def rcount (n : Nat) : Option (Nat × Nat) := match num n with
  | none => none
  | some (v, m) => if v > 4096 then none else some (v.toNat, m)
def rnumber (n : Nat) : Option (Int × Nat) := match num n with
  | none => none
  | some (v, m) => if v > 2000000000000 then none else some (numOf v, m)
def rtexts : Nat → Nat → List ByteArray → Option (List ByteArray × Nat)
  | 0, n, acc => some (acc, n)
  | c + 1, n, acc => (rtext b num n).bind fun p => rtexts c p.2 (acc ++ [p.1])
def rnums : Nat → Nat → List Int → Option (List Int × Nat)
  | 0, n, acc => some (acc, n)
  | c + 1, n, acc => (rnumber num n).bind fun p => rnums c p.2 (acc ++ [p.1])
def rval (n : Nat) : Option (S66 × Nat) :=
  (rtext b num n).bind fun p => (rcount num p.2).bind fun q => (rtexts b num q.1 q.2 []).bind fun t => (rcount num t.2).bind fun q2 => (rnums num q2.1 q2.2 []).bind fun u => some (⟨p.1, t.1, u.1⟩, u.2)
def rvals : Nat → Nat → List S66 → Option (List S66 × Nat)
  | 0, n, acc => some (acc, n)
  | c + 1, n, acc => (rval b num n).bind fun p => rvals c p.2 (acc ++ [p.1])
def rdoc : Option (ByteArray × List S66 × Nat) :=
  (rtext b num 0).bind fun p => (rcount num p.2).bind fun q => (rvals b num q.1 q.2 []).bind fun t => some (p.1, t.1, t.2)
def Good (o : Option (ByteArray × List S66 × Nat)) (r : ByteArray × List S66 × Int × Bool) : Prop := match o with
  | some (i, vs, m) => r = (i, vs, (m : Int), false)
  | none => r.2.2.2 = true
variable {b num} (hl : b.length ≤ 1048576) (hnum : ∀ n, n ≤ b.length → Told b n (num n))
/-! places and lengths -/
include hnum in
theorem rtext_le {n m : Nat} {t : ByteArray} (hn : n ≤ b.length) (h : rtext b num n = some (t, m)) : m ≤ b.length := by
  have ht := hnum n hn
  unfold rtext at h
  cases hv : num n with
  | none => rw [hv] at h; cases h
  | some p =>
    obtain ⟨v, m1⟩ := p
    rw [hv] at h ht
    obtain ⟨h0, h1, h2, h3, _, _⟩ := ht
    simp only at h
    by_cases c : v > 65536 ∨ (m1 : Int) + v > (b.length : Int)
    · rw [if_pos c] at h; cases h
    · rw [if_neg c] at h
      simp only [Option.some.injEq, Prod.mk.injEq] at h
      omega
theorem rtext_size {n m : Nat} {t : ByteArray} (hn : n ≤ b.length) (hl : b.length ≤ 1048576) (h : rtext b num n = some (t, m)) : t.size ≤ 1048576 := by
  unfold rtext at h
  cases hv : num n with
  | none => rw [hv] at h; cases h
  | some p =>
    obtain ⟨v, m1⟩ := p
    rw [hv] at h
    simp only at h
    by_cases c : v > 65536 ∨ (m1 : Int) + v > (b.length : Int)
    · rw [if_pos c] at h; cases h
    · rw [if_neg c] at h
      simp only [Option.some.injEq, Prod.mk.injEq] at h
      obtain ⟨rfl, rfl⟩ := h
      rw [strOfNums_size, List.length_drop, List.length_take]
      omega
include hnum in
theorem rcount_le {n m c : Nat} (hn : n ≤ b.length) (h : rcount num n = some (c, m)) : m ≤ b.length ∧ c ≤ 4096 := by
  have ht := hnum n hn
  unfold rcount at h
  cases hv : num n with
  | none => rw [hv] at h; cases h
  | some p =>
    obtain ⟨v, m1⟩ := p
    rw [hv] at h ht
    obtain ⟨h0, h1, h2, h3, _, _⟩ := ht
    simp only at h
    by_cases c : v > 4096
    · rw [if_pos c] at h; cases h
    · rw [if_neg c] at h
      simp only [Option.some.injEq, Prod.mk.injEq] at h
      omega
include hnum in
theorem rnumber_le {n m : Nat} {c : Int} (hn : n ≤ b.length) (h : rnumber num n = some (c, m)) : m ≤ b.length := by
  have ht := hnum n hn
  unfold rnumber at h
  cases hv : num n with
  | none => rw [hv] at h; cases h
  | some p =>
    obtain ⟨v, m1⟩ := p
    rw [hv] at h ht
    obtain ⟨h0, h1, h2, h3, _, _⟩ := ht
    simp only at h
    by_cases c : v > 2000000000000
    · rw [if_pos c] at h; cases h
    · rw [if_neg c] at h
      simp only [Option.some.injEq, Prod.mk.injEq] at h
      omega
include hnum in
theorem rtexts_le (c : Nat) : ∀ (n : Nat) (acc : List ByteArray) (ts : List ByteArray) (m : Nat), n ≤ b.length → rtexts b num c n acc = some (ts, m) → m ≤ b.length ∧ ts.length = acc.length + c := by
  induction c with
  | zero => intro n acc ts m hn h; simp only [rtexts, Option.some.injEq, Prod.mk.injEq] at h; obtain ⟨rfl, rfl⟩ := h; exact ⟨hn, rfl⟩
  | succ c ih =>
    intro n acc ts m hn h
    rw [rtexts] at h
    obtain ⟨⟨t, m1⟩, h1, h2⟩ := Option.bind_eq_some_iff.1 h
    have := ih m1 _ ts m (rtext_le hnum hn h1) h2
    rw [List.length_append, List.length_singleton] at this
    omega
include hnum in
theorem rnums_le (c : Nat) : ∀ (n : Nat) (acc : List Int) (ts : List Int) (m : Nat), n ≤ b.length → rnums num c n acc = some (ts, m) → m ≤ b.length ∧ ts.length = acc.length + c := by
  induction c with
  | zero => intro n acc ts m hn h; simp only [rnums, Option.some.injEq, Prod.mk.injEq] at h; obtain ⟨rfl, rfl⟩ := h; exact ⟨hn, rfl⟩
  | succ c ih =>
    intro n acc ts m hn h
    rw [rnums] at h
    obtain ⟨⟨t, m1⟩, h1, h2⟩ := Option.bind_eq_some_iff.1 h
    have := ih m1 _ ts m (rnumber_le hnum hn h1) h2
    rw [List.length_append, List.length_singleton] at this
    omega
include hnum in
theorem rval_le {n m : Nat} {v : S66} (hn : n ≤ b.length) (h : rval b num n = some (v, m)) : m ≤ b.length ∧ okW v := by
  unfold rval at h
  obtain ⟨⟨f, m1⟩, h1, h⟩ := Option.bind_eq_some_iff.1 h
  obtain ⟨⟨c1, m2⟩, h2, h⟩ := Option.bind_eq_some_iff.1 h
  obtain ⟨⟨ts, m3⟩, h3, h⟩ := Option.bind_eq_some_iff.1 h
  obtain ⟨⟨c2, m4⟩, h4, h⟩ := Option.bind_eq_some_iff.1 h
  obtain ⟨⟨ns, m5⟩, h5, h⟩ := Option.bind_eq_some_iff.1 h
  simp only [Option.some.injEq, Prod.mk.injEq] at h
  obtain ⟨rfl, rfl⟩ := h
  have l1 := rtext_le hnum hn h1
  have l2 := rcount_le hnum l1 h2
  have l3 := rtexts_le hnum _ _ _ _ _ l2.1 h3
  have l4 := rcount_le hnum l3.1 h4
  have l5 := rnums_le hnum _ _ _ _ _ l4.1 h5
  simp only [List.length_nil] at l3 l5
  exact ⟨l5.1, by show ts.length ≤ _; omega, by show ns.length ≤ _; omega⟩
include hnum in
theorem rvals_le (c : Nat) : ∀ (n : Nat) (acc : List S66) (vs : List S66) (m : Nat), n ≤ b.length → (∀ v ∈ acc, okW v) → rvals b num c n acc = some (vs, m) → m ≤ b.length ∧ vs.length = acc.length + c ∧ ∀ v ∈ vs, okW v := by
  induction c with
  | zero => intro n acc ts m hn ho h; simp only [rvals, Option.some.injEq, Prod.mk.injEq] at h; obtain ⟨rfl, rfl⟩ := h; exact ⟨hn, rfl, ho⟩
  | succ c ih =>
    intro n acc vs m hn ho h
    rw [rvals] at h
    obtain ⟨⟨t, m1⟩, h1, h2⟩ := Option.bind_eq_some_iff.1 h
    obtain ⟨l1, o1⟩ := rval_le hnum hn h1
    have := ih m1 _ vs m l1 (fun v hv => by
      rcases List.mem_append.1 hv with hv | hv
      · exact ho v hv
      · rw [List.mem_singleton.1 hv]; exact o1) h2
    rw [List.length_append, List.length_singleton] at this
    exact ⟨this.1, by omega, this.2.2⟩
/-! the reference's reader -/
theorem snum_bad (a : Int) : Ev (fun k => spec_l06Reader_num.f k b a true) (0, a, true) := by
  unfold spec_l06Reader_num.f
  exact Ev.pos rfl (Ev.now _)
include hnum in
theorem snum_none {n : Nat} (hn : n ≤ b.length) (h : num n = none) : Ev (fun k => spec_l06Reader_num.f k b (n : Int) false) (0, (n : Int), true) := by
  have ht := hnum n hn
  rw [h] at ht
  obtain ⟨⟨x, y, hs⟩, _⟩ := ht
  unfold spec_l06Reader_num.f
  exact Ev.neg Bool.false_ne_true (Ev.bind hs (Ev.neg Bool.false_ne_true (Ev.now _)))
include hnum in
theorem snum_some {n m : Nat} {v : Int} (hn : n ≤ b.length) (h : num n = some (v, m)) : Ev (fun k => spec_l06Reader_num.f k b (n : Int) false) (v, (m : Int), false) := by
  have ht := hnum n hn
  rw [h] at ht
  obtain ⟨_, _, _, _, hs, _⟩ := ht
  unfold spec_l06Reader_num.f
  exact Ev.neg Bool.false_ne_true (Ev.bind hs (Ev.pos rfl (Ev.now _)))
include hl in
theorem stext_bad (a : Nat) (ha : a ≤ b.length) : Ev (fun k => spec_l06Reader_text.f k b (a : Int) true) ((⟨#[]⟩ : ByteArray), (a : Int), true) := by
  unfold spec_l06Reader_text.f
  exact Ev.bind (snum_bad _) (Ev.pos (by dsimp only; omega) (Ev.pos (by dsimp only; omega) (Ev.pos (by dsimp only; omega) (Ev.pos (by dsimp only; omega) (Ev.pos (by omega) (Ev.pos rfl (Ev.now _)))))))
include hl hnum in
theorem stext_some {n m : Nat} {t : ByteArray} (hn : n ≤ b.length) (h : rtext b num n = some (t, m)) : Ev (fun k => spec_l06Reader_text.f k b (n : Int) false) (t, (m : Int), false) := by
  have ht := hnum n hn
  unfold rtext at h
  cases hv : num n with
  | none => rw [hv] at h; cases h
  | some p =>
    obtain ⟨v, m1⟩ := p
    rw [hv] at h ht
    obtain ⟨h0, h1, h2, h3, _, _⟩ := ht
    simp only at h
    by_cases c : v > 65536 ∨ (m1 : Int) + v > (b.length : Int)
    · rw [if_pos c] at h; cases h
    · rw [if_neg c] at h
      simp only [Option.some.injEq, Prod.mk.injEq] at h
      obtain ⟨rfl, rfl⟩ := h
      unfold spec_l06Reader_text.f
      refine Ev.bind (snum_some hnum hn hv) (Ev.pos (by dsimp only; omega) (Ev.pos (by dsimp only; omega) (Ev.pos (by dsimp only; omega) (Ev.pos (by dsimp only; omega) (Ev.pos (by omega) (Ev.neg (by simp) (Ev.neg (by dsimp only; omega) (Ev.neg (by dsimp only; omega) ?_))))))))
      have e : ((m1 : Int) + v).toNat = m1 + v.toNat := by omega
      have e2 : ((m1 + v.toNat : Nat) : Int) = (m1 : Int) + v := by omega
      rw [e2]
      dsimp only
      rw [e, Int.toNat_natCast]
      exact Ev.now _
include hl hnum in
theorem stext_none {n : Nat} (hn : n ≤ b.length) (h : rtext b num n = none) : ∃ a : Nat, a ≤ b.length ∧ Ev (fun k => spec_l06Reader_text.f k b (n : Int) false) ((⟨#[]⟩ : ByteArray), (a : Int), true) := by
  have ht := hnum n hn
  unfold rtext at h
  unfold spec_l06Reader_text.f
  cases hv : num n with
  | none => exact ⟨n, hn, Ev.bind (snum_none hnum hn hv) (Ev.pos (by dsimp only; omega) (Ev.pos (by dsimp only; omega) (Ev.pos (by dsimp only; omega) (Ev.pos (by dsimp only; omega) (Ev.pos (by omega) (Ev.pos rfl (Ev.now _)))))))⟩
  | some p =>
    obtain ⟨v, m1⟩ := p
    rw [hv] at h ht
    obtain ⟨h0, h1, h2, h3, _, _⟩ := ht
    simp only at h
    by_cases c : v > 65536 ∨ (m1 : Int) + v > (b.length : Int)
    · refine ⟨m1, h3, Ev.bind (snum_some hnum hn hv) (Ev.pos (by dsimp only; omega) (Ev.pos (by dsimp only; omega) (Ev.pos (by dsimp only; omega) (Ev.pos (by dsimp only; omega) (Ev.pos (by omega) (Ev.neg (by simp) ?_))))))⟩
      by_cases c2 : v > (b.length : Int) - (m1 : Int)
      · exact Ev.pos (by dsimp only; omega) (Ev.now _)
      · exact Ev.neg (by dsimp only; omega) (Ev.pos (by dsimp only; omega) (Ev.now _))
    · rw [if_neg c] at h; cases h
theorem scount_bad (a : Int) : Ev (fun k => spec_l06Reader_count.f k b a true) (0, a, true) := by
  unfold spec_l06Reader_count.f
  exact Ev.bind (snum_bad _) (Ev.neg (by simp) (Ev.now _))
include hnum in
theorem scount_some {n m c : Nat} (hn : n ≤ b.length) (h : rcount num n = some (c, m)) : Ev (fun k => spec_l06Reader_count.f k b (n : Int) false) ((c : Int), (m : Int), false) := by
  have ht := hnum n hn
  unfold rcount at h
  cases hv : num n with
  | none => rw [hv] at h; cases h
  | some p =>
    obtain ⟨v, m1⟩ := p
    rw [hv] at h ht
    obtain ⟨h0, h1, h2, h3, _, _⟩ := ht
    simp only at h
    by_cases c : v > 4096
    · rw [if_pos c] at h; cases h
    · rw [if_neg c] at h
      simp only [Option.some.injEq, Prod.mk.injEq] at h
      obtain ⟨rfl, rfl⟩ := h
      rw [Int.toNat_of_nonneg h0]
      unfold spec_l06Reader_count.f
      exact Ev.bind (snum_some hnum hn hv) (Ev.neg (by dsimp only; omega) (Ev.now _))
include hnum in
theorem scount_none {n : Nat} (hn : n ≤ b.length) (h : rcount num n = none) : ∃ a : Nat, a ≤ b.length ∧ Ev (fun k => spec_l06Reader_count.f k b (n : Int) false) (0, (a : Int), true) := by
  have ht := hnum n hn
  unfold rcount at h
  unfold spec_l06Reader_count.f
  cases hv : num n with
  | none => exact ⟨n, hn, Ev.bind (snum_none hnum hn hv) (Ev.neg (by simp) (Ev.now _))⟩
  | some p =>
    obtain ⟨v, m1⟩ := p
    rw [hv] at h ht
    obtain ⟨h0, h1, h2, h3, _, _⟩ := ht
    simp only at h
    by_cases c : v > 4096
    · exact ⟨m1, h3, Ev.bind (snum_some hnum hn hv) (Ev.pos (by dsimp only; omega) (Ev.now _))⟩
    · rw [if_neg c] at h; cases h
theorem half0 : wrap64 (Int.tdiv 0 2) = 0 := by
  have h : Int.tdiv 0 2 = 0 := rfl
  rw [h]; unfold wrap64; omega
theorem snumber_bad (a : Int) : Ev (fun k => spec_l06Reader_number.f k b a true) (0, a, true) := by
  unfold spec_l06Reader_number.f
  refine Ev.bind (snum_bad _) (Ev.neg (by simp) (Ev.neg (by simp) ?_))
  exact Ev.ofEq (by dsimp only; rw [half0])
include hnum in
theorem snumber_some {n m : Nat} {c : Int} (hn : n ≤ b.length) (h : rnumber num n = some (c, m)) : Ev (fun k => spec_l06Reader_number.f k b (n : Int) false) (c, (m : Int), false) := by
  have ht := hnum n hn
  unfold rnumber at h
  cases hv : num n with
  | none => rw [hv] at h; cases h
  | some p =>
    obtain ⟨v, m1⟩ := p
    rw [hv] at h ht
    obtain ⟨h0, h1, h2, h3, _, _⟩ := ht
    simp only at h
    by_cases c : v > 2000000000000
    · rw [if_pos c] at h; cases h
    · rw [if_neg c] at h
      simp only [Option.some.injEq, Prod.mk.injEq] at h
      obtain ⟨rfl, rfl⟩ := h
      unfold spec_l06Reader_number.f numOf
      refine Ev.bind (snum_some hnum hn hv) (Ev.neg (by dsimp only; omega) ?_)
      by_cases d : Int.tmod v 2 = 1
      · dsimp only; simp only [if_pos d]; exact Ev.now _
      · dsimp only; simp only [if_neg d]; exact Ev.now _
include hnum in
theorem snumber_none {n : Nat} (hn : n ≤ b.length) (h : rnumber num n = none) : ∃ a : Nat, a ≤ b.length ∧ Ev (fun k => spec_l06Reader_number.f k b (n : Int) false) (0, (a : Int), true) := by
  have ht := hnum n hn
  unfold rnumber at h
  unfold spec_l06Reader_number.f
  cases hv : num n with
  | none => exact ⟨n, hn, Ev.bind (snum_none hnum hn hv) (Ev.neg (by simp) (Ev.neg (by simp) (Ev.ofEq (by dsimp only; rw [half0]))))⟩
  | some p =>
    obtain ⟨v, m1⟩ := p
    rw [hv] at h ht
    obtain ⟨h0, h1, h2, h3, _, _⟩ := ht
    simp only at h
    by_cases c : v > 2000000000000
    · exact ⟨m1, h3, Ev.bind (snum_some hnum hn hv) (Ev.pos (by dsimp only; omega) (Ev.now _))⟩
    · rw [if_neg c] at h; cases h
theorem wp1 (c : Nat) (h : c ≤ 281474976710656) : wrap64 (((c + 1 : Nat) : Int) - 1) = (c : Int) := by rw [w64 (by omega) (by omega)]; omega
theorem sl0_bad (x4 a : Int) (id : ByteArray) (vals : List S66) : Ev (fun k => spec_l06Reader_doc.l0 k x4 b a true id vals) (id, vals, a, true) := by
  refine Ev.step (fun k => by rw [spec_l06Reader_doc.l0]) ?_
  have hj : Ev (fun k => spec_l06Reader_doc.j1 k x4 false b a true id vals) (id, vals, a, true) := (by refine Ev.step (fun k => by rw [spec_l06Reader_doc.j1]) ?_; exact Ev.neg Bool.false_ne_true (Ev.now _))
  by_cases h : x4 > 0
  · exact Ev.pos h hj
  · exact Ev.neg h hj
theorem sl2_bad (x4 x7 a : Int) (id : ByteArray) (vals : List S66) (f : ByteArray) (ts : List ByteArray) (ns : List Int) (hv : vals.length < 2199023255552) : Ev (fun k => spec_l06Reader_doc.l2 k x4 x7 b a true id vals f ts ns) (id, vals ++ [⟨f, ts, ns⟩], a, true) := by
  refine Ev.step (fun k => by rw [spec_l06Reader_doc.l2]) ?_
  by_cases h : x7 > 0
  · exact Ev.pos h (Ev.pos rfl (Ev.pos hv (sl0_bad _ _ _ _)))
  · exact Ev.neg h (Ev.pos hv (sl0_bad _ _ _ _))
theorem sj3_bad (x4 a : Int) (id : ByteArray) (vals : List S66) (f : ByteArray) (ts : List ByteArray) (hv : vals.length < 2199023255552) : Ev (fun k => spec_l06Reader_doc.j3 k x4 b a true id vals f ts) (id, vals ++ [⟨f, ts, []⟩], a, true) := by
  refine Ev.step (fun k => by rw [spec_l06Reader_doc.j3]) ?_
  exact Ev.bind (scount_bad _) (sl2_bad _ _ _ _ _ _ _ _ hv)
theorem sl1_bad (x4 x6 a : Int) (id : ByteArray) (vals : List S66) (f : ByteArray) (ts : List ByteArray) (hv : vals.length < 2199023255552) : Ev (fun k => spec_l06Reader_doc.l1 k x4 x6 b a true id vals f ts) (id, vals ++ [⟨f, ts, []⟩], a, true) := by
  refine Ev.step (fun k => by rw [spec_l06Reader_doc.l1]) ?_
  by_cases h : x6 > 0
  · exact Ev.pos h (Ev.pos rfl (sj3_bad _ _ _ _ _ _ hv))
  · exact Ev.neg h (sj3_bad _ _ _ _ _ _ hv)
include hl hnum in
theorem sl1_some (x4 : Int) (id : ByteArray) (vals : List S66) (f : ByteArray) (r : ByteArray × List S66 × Int × Bool) (c : Nat) : ∀ (n : Nat) (acc : List ByteArray) (ts : List ByteArray) (m : Nat), n ≤ b.length → acc.length + c ≤ 4096 → rtexts b num c n acc = some (ts, m) →
    Ev (fun k => spec_l06Reader_doc.j3 k x4 b (m : Int) false id vals f ts) r → Ev (fun k => spec_l06Reader_doc.l1 k x4 (c : Int) b (n : Int) false id vals f acc) r := by
  induction c with
  | zero =>
    intro n acc ts m hn ha h hr
    simp only [rtexts, Option.some.injEq, Prod.mk.injEq] at h
    obtain ⟨rfl, rfl⟩ := h
    refine Ev.step (fun k => by rw [spec_l06Reader_doc.l1]) ?_
    exact Ev.neg (by omega) hr
  | succ c ih =>
    intro n acc ts m hn ha h hr
    rw [rtexts] at h
    obtain ⟨⟨t, m1⟩, h1, h2⟩ := Option.bind_eq_some_iff.1 h
    refine Ev.step (fun k => by rw [spec_l06Reader_doc.l1, wp1 c (by omega)]) ?_
    refine Ev.pos (by omega) (Ev.neg Bool.false_ne_true (Ev.bind (stext_some hl hnum hn h1) (Ev.pos (by omega) ?_)))
    exact ih m1 _ ts m (rtext_le hnum hn h1) (by rw [List.length_append, List.length_singleton]; omega) h2 hr
include hl hnum in
theorem sl1_none (x4 : Int) (id : ByteArray) (vals : List S66) (f : ByteArray) (hv : vals.length < 2199023255552) (c : Nat) : ∀ (n : Nat) (acc : List ByteArray), n ≤ b.length → acc.length + c ≤ 4096 → rtexts b num c n acc = none →
    ∃ r : ByteArray × List S66 × Int × Bool, r.2.2.2 = true ∧ Ev (fun k => spec_l06Reader_doc.l1 k x4 (c : Int) b (n : Int) false id vals f acc) r := by
  induction c with
  | zero => intro n acc hn ha h; simp [rtexts] at h
  | succ c ih =>
    intro n acc hn ha h
    rw [rtexts] at h
    cases h1 : rtext b num n with
    | none =>
      obtain ⟨a, ha', ht⟩ := stext_none hl hnum hn h1
      exact ⟨(id, vals ++ [⟨f, acc ++ [(⟨#[]⟩ : ByteArray)], []⟩], (a : Int), true), rfl, (by refine Ev.step (fun k => by rw [spec_l06Reader_doc.l1, wp1 c (by omega)]) ?_; exact Ev.pos (by omega) (Ev.neg Bool.false_ne_true (Ev.bind ht (Ev.pos (by omega) (sl1_bad _ _ _ _ _ _ _ hv)))))⟩
    | some p =>
      obtain ⟨t, m1⟩ := p
      rw [h1] at h
      obtain ⟨r, hr, hE⟩ := ih m1 (acc ++ [t]) (rtext_le hnum hn h1) (by rw [List.length_append, List.length_singleton]; omega) h
      exact ⟨r, hr, (by refine Ev.step (fun k => by rw [spec_l06Reader_doc.l1, wp1 c (by omega)]) ?_; exact Ev.pos (by omega) (Ev.neg Bool.false_ne_true (Ev.bind (stext_some hl hnum hn h1) (Ev.pos (by omega) hE))))⟩
include hnum in
theorem sl2_some (x4 : Int) (id : ByteArray) (vals : List S66) (f : ByteArray) (ts : List ByteArray) (hv : vals.length < 2199023255552) (r : ByteArray × List S66 × Int × Bool) (c : Nat) : ∀ (n : Nat) (acc : List Int) (ns : List Int) (m : Nat), n ≤ b.length → acc.length + c ≤ 4096 → rnums num c n acc = some (ns, m) →
    Ev (fun k => spec_l06Reader_doc.l0 k (wrap64 (x4 - 1)) b (m : Int) false id (vals ++ [⟨f, ts, ns⟩])) r → Ev (fun k => spec_l06Reader_doc.l2 k x4 (c : Int) b (n : Int) false id vals f ts acc) r := by
  induction c with
  | zero =>
    intro n acc ns m hn ha h hr
    simp only [rnums, Option.some.injEq, Prod.mk.injEq] at h
    obtain ⟨rfl, rfl⟩ := h
    refine Ev.step (fun k => by rw [spec_l06Reader_doc.l2]) ?_
    exact Ev.neg (by omega) (Ev.pos hv hr)
  | succ c ih =>
    intro n acc ns m hn ha h hr
    rw [rnums] at h
    obtain ⟨⟨t, m1⟩, h1, h2⟩ := Option.bind_eq_some_iff.1 h
    refine Ev.step (fun k => by rw [spec_l06Reader_doc.l2, wp1 c (by omega)]) ?_
    refine Ev.pos (by omega) (Ev.neg Bool.false_ne_true (Ev.bind (snumber_some hnum hn h1) (Ev.pos (by omega) ?_)))
    exact ih m1 _ ns m (rnumber_le hnum hn h1) (by rw [List.length_append, List.length_singleton]; omega) h2 hr
include hnum in
theorem sl2_none (x4 : Int) (id : ByteArray) (vals : List S66) (f : ByteArray) (ts : List ByteArray) (hv : vals.length < 2199023255552) (c : Nat) : ∀ (n : Nat) (acc : List Int), n ≤ b.length → acc.length + c ≤ 4096 → rnums num c n acc = none →
    ∃ r : ByteArray × List S66 × Int × Bool, r.2.2.2 = true ∧ Ev (fun k => spec_l06Reader_doc.l2 k x4 (c : Int) b (n : Int) false id vals f ts acc) r := by
  induction c with
  | zero => intro n acc hn ha h; simp [rnums] at h
  | succ c ih =>
    intro n acc hn ha h
    rw [rnums] at h
    cases h1 : rnumber num n with
    | none =>
      obtain ⟨a, ha', ht⟩ := snumber_none hnum hn h1
      exact ⟨(id, vals ++ [⟨f, ts, acc ++ [0]⟩], (a : Int), true), rfl, (by refine Ev.step (fun k => by rw [spec_l06Reader_doc.l2, wp1 c (by omega)]) ?_; exact Ev.pos (by omega) (Ev.neg Bool.false_ne_true (Ev.bind ht (Ev.pos (by omega) (sl2_bad _ _ _ _ _ _ _ _ hv)))))⟩
    | some p =>
      obtain ⟨t, m1⟩ := p
      rw [h1] at h
      obtain ⟨r, hr, hE⟩ := ih m1 (acc ++ [t]) (rnumber_le hnum hn h1) (by rw [List.length_append, List.length_singleton]; omega) h
      exact ⟨r, hr, (by refine Ev.step (fun k => by rw [spec_l06Reader_doc.l2, wp1 c (by omega)]) ?_; exact Ev.pos (by omega) (Ev.neg Bool.false_ne_true (Ev.bind (snumber_some hnum hn h1) (Ev.pos (by omega) hE))))⟩
include hl hnum in
theorem sl0_good (id : ByteArray) (c : Nat) : ∀ (n : Nat) (vals : List S66), n ≤ b.length → vals.length + c ≤ 4096 →
    ∃ r : ByteArray × List S66 × Int × Bool, Good ((rvals b num c n vals).bind fun t => some (id, t.1, t.2)) r ∧ Ev (fun k => spec_l06Reader_doc.l0 k (c : Int) b (n : Int) false id vals) r := by
  induction c with
  | zero =>
    intro n vals hn hv
    exact ⟨(id, vals, (n : Int), false), rfl, (by refine Ev.step (fun k => by rw [spec_l06Reader_doc.l0]) ?_; exact Ev.neg (by omega) ((by refine Ev.step (fun k => by rw [spec_l06Reader_doc.j1]) ?_; exact Ev.neg Bool.false_ne_true (Ev.now _))))⟩
  | succ c ih =>
    intro n vals hn hv
    have hv' : vals.length < 2199023255552 := by omega
    suffices hs : ∃ r : ByteArray × List S66 × Int × Bool, Good ((rvals b num (c + 1) n vals).bind fun t => some (id, t.1, t.2)) r ∧ Ev (fun k => (spec_l06Reader_text.f k b (n : Int) false).bind fun bt142 => ((spec_l06Reader_count.f k b bt142.2.1 bt142.2.2).bind fun bt146 => (spec_l06Reader_doc.l1 k ((c + 1 : Nat) : Int) bt146.1 b bt146.2.1 bt146.2.2 id vals bt142.1 ([] : List ByteArray)))) r by
      obtain ⟨r, hg, hr⟩ := hs
      exact ⟨r, hg, (by refine Ev.step (fun k => by rw [spec_l06Reader_doc.l0]) ?_; exact Ev.pos (by omega) ((by refine Ev.step (fun k => by rw [spec_l06Reader_doc.j1]) ?_; exact Ev.pos rfl hr)))⟩
    rw [rvals]
    unfold rval
    cases h1 : rtext b num n with
    | none =>
      obtain ⟨a, ha, ht⟩ := stext_none hl hnum hn h1
      exact ⟨_, (by rfl), Ev.bind ht (Ev.bind (scount_bad _) (sl1_bad _ _ _ _ _ _ _ hv'))⟩
    | some p =>
      obtain ⟨f, m1⟩ := p
      have l1 := rtext_le hnum hn h1
      have ht := stext_some hl hnum hn h1
      simp only [Option.bind_some]
      cases h2 : rcount num m1 with
      | none =>
        obtain ⟨a, ha, hc⟩ := scount_none hnum l1 h2
        exact ⟨_, (by rfl), Ev.bind ht (Ev.bind hc (sl1_bad _ _ _ _ _ _ _ hv'))⟩
      | some p =>
        obtain ⟨c1, m2⟩ := p
        have l2 := rcount_le hnum l1 h2
        have hc := scount_some hnum l1 h2
        simp only [Option.bind_some]
        cases h3 : rtexts b num c1 m2 [] with
        | none =>
          obtain ⟨r, hr, hE⟩ := sl1_none hl hnum ((c + 1 : Nat) : Int) id vals f hv' c1 m2 [] l2.1 (by simp only [List.length_nil]; omega) h3
          exact ⟨r, hr, Ev.bind ht (Ev.bind hc hE)⟩
        | some p =>
          obtain ⟨ts, m3⟩ := p
          have l3 := rtexts_le hnum _ _ _ _ _ l2.1 h3
          have H := fun r => sl1_some hl hnum ((c + 1 : Nat) : Int) id vals f r c1 m2 [] ts m3 l2.1 (by simp only [List.length_nil]; omega) h3
          simp only [Option.bind_some]
          suffices hs : ∃ r : ByteArray × List S66 × Int × Bool, Good (((((rcount num m3).bind fun q2 => (rnums num q2.1 q2.2 []).bind fun u => some ((⟨f, ts, u.1⟩ : S66), u.2)).bind fun p => rvals b num c p.2 (vals ++ [p.1])).bind fun t => some (id, t.1, t.2))) r ∧ Ev (fun k => (spec_l06Reader_count.f k b (m3 : Int) false).bind fun bt155 => (spec_l06Reader_doc.l2 k ((c + 1 : Nat) : Int) bt155.1 b bt155.2.1 bt155.2.2 id vals f ts ([] : List Int))) r by
            obtain ⟨r, hg, hr⟩ := hs
            exact ⟨r, hg, Ev.bind ht (Ev.bind hc (H r (Ev.step (fun k => by rw [spec_l06Reader_doc.j3]) hr)))⟩
          cases h4 : rcount num m3 with
          | none =>
            obtain ⟨a, ha, hc2⟩ := scount_none hnum l3.1 h4
            exact ⟨_, (by rfl), Ev.bind hc2 (sl2_bad _ _ _ _ _ _ _ _ hv')⟩
          | some p =>
            obtain ⟨c2, m4⟩ := p
            have l4 := rcount_le hnum l3.1 h4
            have hc2 := scount_some hnum l3.1 h4
            simp only [Option.bind_some]
            cases h5 : rnums num c2 m4 [] with
            | none =>
              obtain ⟨r, hr, hE⟩ := sl2_none hnum ((c + 1 : Nat) : Int) id vals f ts hv' c2 m4 [] l4.1 (by simp only [List.length_nil]; omega) h5
              exact ⟨r, hr, Ev.bind hc2 hE⟩
            | some p =>
              obtain ⟨ns, m5⟩ := p
              have l5 := rnums_le hnum _ _ _ _ _ l4.1 h5
              obtain ⟨r, hg, hE⟩ := ih m5 (vals ++ [⟨f, ts, ns⟩]) l5.1 (by rw [List.length_append, List.length_singleton]; omega)
              rw [← wp1 c (by omega)] at hE
              exact ⟨r, hg, Ev.bind hc2 (sl2_some hnum ((c + 1 : Nat) : Int) id vals f ts hv' r c2 m4 [] ns m5 l4.1 (by simp only [List.length_nil]; omega) h5 hE)⟩
include hl hnum in
theorem sdoc_good : ∃ r : ByteArray × List S66 × Int × Bool, Good (rdoc b num) r ∧ Ev (fun k => spec_l06Reader_doc.f k b 0 false) r := by
  unfold rdoc spec_l06Reader_doc.f
  cases h1 : rtext b num 0 with
  | none =>
    obtain ⟨a, ha, ht⟩ := stext_none hl hnum (Nat.zero_le _) h1
    exact ⟨_, (by rfl), Ev.bind ht (Ev.bind (scount_bad _) (sl0_bad _ _ _ _))⟩
  | some p =>
    obtain ⟨id, m1⟩ := p
    have l1 := rtext_le hnum (Nat.zero_le _) h1
    have ht := stext_some hl hnum (Nat.zero_le _) h1
    simp only [Option.bind_some]
    cases h2 : rcount num m1 with
    | none =>
      obtain ⟨a, ha, hc⟩ := scount_none hnum l1 h2
      exact ⟨_, (by rfl), Ev.bind ht (Ev.bind hc (sl0_bad _ _ _ _))⟩
    | some p =>
      obtain ⟨c, m2⟩ := p
      have l2 := rcount_le hnum l1 h2
      have hc := scount_some hnum l1 h2
      obtain ⟨r, hg, hE⟩ := sl0_good hl hnum id c m2 [] l2.1 (by simp only [List.length_nil]; omega)
      exact ⟨r, hg, Ev.bind ht (Ev.bind hc hE)⟩
end
/-! the program's reader -/
section
variable {b : List Int} {num : Nat → Option (Int × Nat)} (hl : b.length ≤ 1048576) (hnum : ∀ n, n ≤ b.length → Told b n (num n))
theorem iint_bad (a most : Int) : Ev (fun k => impl_docReader_int.f k b a true most) (0, a, true) := by
  unfold impl_docReader_int.f
  exact Ev.pos rfl (Ev.now _)
include hnum in
theorem iint_none {n : Nat} (most : Int) (hn : n ≤ b.length) (h : num n = none) : Ev (fun k => impl_docReader_int.f k b (n : Int) false most) (0, (n : Int), true) := by
  have ht := hnum n hn
  rw [h] at ht
  obtain ⟨_, hi⟩ := ht
  unfold impl_docReader_int.f
  exact Ev.neg Bool.false_ne_true (Ev.bind hi (Ev.neg (by decide) (Ev.now _)))
include hnum in
theorem iint_over {n m : Nat} {v : Int} (most : Int) (hn : n ≤ b.length) (h : num n = some (v, m)) (ho : v > most) : Ev (fun k => impl_docReader_int.f k b (n : Int) false most) (0, (n : Int), true) := by
  have ht := hnum n hn
  rw [h] at ht
  obtain ⟨_, _, _, _, _, hi⟩ := ht
  unfold impl_docReader_int.f
  exact Ev.neg Bool.false_ne_true (Ev.bind hi (Ev.pos rfl (Ev.pos ho (Ev.now _))))
include hnum in
theorem iint_some {n m : Nat} {v : Int} (most : Int) (hn : n ≤ b.length) (h : num n = some (v, m)) (ho : ¬ v > most) : Ev (fun k => impl_docReader_int.f k b (n : Int) false most) (v, (m : Int), false) := by
  have ht := hnum n hn
  rw [h] at ht
  obtain ⟨_, _, _, _, _, hi⟩ := ht
  unfold impl_docReader_int.f
  exact Ev.neg Bool.false_ne_true (Ev.bind hi (Ev.pos rfl (Ev.neg ho (Ev.now _))))
include hl in
theorem itext_bad (a : Nat) (ha : a ≤ b.length) : Ev (fun k => impl_docReader_text.f k b (a : Int) true) ((⟨#[]⟩ : ByteArray), (a : Int), true) := by
  unfold impl_docReader_text.f
  exact Ev.bind (iint_bad _ _) (Ev.pos (by dsimp only; omega) (Ev.pos (by dsimp only; omega) (Ev.pos (by dsimp only; omega) (Ev.pos (by dsimp only; omega) (Ev.pos (by omega) (Ev.pos rfl (Ev.now _)))))))
include hl hnum in
theorem itext_some {n m : Nat} {t : ByteArray} (hn : n ≤ b.length) (h : rtext b num n = some (t, m)) : Ev (fun k => impl_docReader_text.f k b (n : Int) false) (t, (m : Int), false) := by
  have ht := hnum n hn
  unfold rtext at h
  cases hv : num n with
  | none => rw [hv] at h; cases h
  | some p =>
    obtain ⟨v, m1⟩ := p
    rw [hv] at h ht
    obtain ⟨h0, h1, h2, h3, _, _⟩ := ht
    simp only at h
    by_cases c : v > 65536 ∨ (m1 : Int) + v > (b.length : Int)
    · rw [if_pos c] at h; cases h
    · rw [if_neg c] at h
      simp only [Option.some.injEq, Prod.mk.injEq] at h
      obtain ⟨rfl, rfl⟩ := h
      unfold impl_docReader_text.f
      refine Ev.bind (iint_some hnum 65536 hn hv (by omega)) (Ev.pos (by dsimp only; omega) (Ev.pos (by dsimp only; omega) (Ev.pos (by dsimp only; omega) (Ev.pos (by dsimp only; omega) (Ev.pos (by omega) (Ev.neg (by simp) (Ev.neg (by dsimp only; omega) ?_)))))))
      have e : ((m1 : Int) + v).toNat = m1 + v.toNat := by omega
      have e2 : ((m1 + v.toNat : Nat) : Int) = (m1 : Int) + v := by omega
      rw [e2]
      dsimp only
      rw [e, Int.toNat_natCast]
      exact Ev.now _
include hl hnum in
theorem itext_none {n : Nat} (hn : n ≤ b.length) (h : rtext b num n = none) : ∃ a : Nat, a ≤ b.length ∧ Ev (fun k => impl_docReader_text.f k b (n : Int) false) ((⟨#[]⟩ : ByteArray), (a : Int), true) := by
  have ht := hnum n hn
  unfold rtext at h
  unfold impl_docReader_text.f
  cases hv : num n with
  | none => exact ⟨n, hn, Ev.bind (iint_none hnum 65536 hn hv) (Ev.pos (by dsimp only; omega) (Ev.pos (by dsimp only; omega) (Ev.pos (by dsimp only; omega) (Ev.pos (by dsimp only; omega) (Ev.pos (by omega) (Ev.pos rfl (Ev.now _)))))))⟩
  | some p =>
    obtain ⟨v, m1⟩ := p
    rw [hv] at h ht
    obtain ⟨h0, h1, h2, h3, _, _⟩ := ht
    simp only at h
    by_cases c : v > 65536 ∨ (m1 : Int) + v > (b.length : Int)
    · by_cases c2 : v > 65536
      · exact ⟨n, hn, Ev.bind (iint_over hnum 65536 hn hv c2) (Ev.pos (by dsimp only; omega) (Ev.pos (by dsimp only; omega) (Ev.pos (by dsimp only; omega) (Ev.pos (by dsimp only; omega) (Ev.pos (by omega) (Ev.pos rfl (Ev.now _)))))))⟩
      · exact ⟨m1, h3, Ev.bind (iint_some hnum 65536 hn hv c2) (Ev.pos (by dsimp only; omega) (Ev.pos (by dsimp only; omega) (Ev.pos (by dsimp only; omega) (Ev.pos (by dsimp only; omega) (Ev.pos (by omega) (Ev.neg (by simp) (Ev.pos (by dsimp only; omega) (Ev.now _))))))))⟩
    · rw [if_neg c] at h; cases h
include hnum in
theorem icount_some {n m c : Nat} (hn : n ≤ b.length) (h : rcount num n = some (c, m)) : Ev (fun k => impl_docReader_int.f k b (n : Int) false 4096) ((c : Int), (m : Int), false) := by
  have ht := hnum n hn
  unfold rcount at h
  cases hv : num n with
  | none => rw [hv] at h; cases h
  | some p =>
    obtain ⟨v, m1⟩ := p
    rw [hv] at h ht
    obtain ⟨h0, h1, h2, h3, _, _⟩ := ht
    simp only at h
    by_cases c : v > 4096
    · rw [if_pos c] at h; cases h
    · rw [if_neg c] at h
      simp only [Option.some.injEq, Prod.mk.injEq] at h
      obtain ⟨rfl, rfl⟩ := h
      rw [Int.toNat_of_nonneg h0]
      exact iint_some hnum 4096 hn hv c
include hnum in
theorem icount_none {n : Nat} (hn : n ≤ b.length) (h : rcount num n = none) : Ev (fun k => impl_docReader_int.f k b (n : Int) false 4096) (0, (n : Int), true) := by
  unfold rcount at h
  cases hv : num n with
  | none => exact iint_none hnum 4096 hn hv
  | some p =>
    obtain ⟨v, m1⟩ := p
    rw [hv] at h
    simp only at h
    by_cases c : v > 4096
    · exact iint_over hnum 4096 hn hv c
    · rw [if_neg c] at h; cases h
include hnum in
theorem inumber_some {n m : Nat} {c : Int} (hn : n ≤ b.length) (h : rnumber num n = some (c, m)) : ∃ v : Int, c = numOf v ∧ Ev (fun k => impl_docReader_int.f k b (n : Int) false 2000000000000) (v, (m : Int), false) := by
  unfold rnumber at h
  cases hv : num n with
  | none => rw [hv] at h; cases h
  | some p =>
    obtain ⟨v, m1⟩ := p
    rw [hv] at h
    simp only at h
    by_cases c : v > 2000000000000
    · rw [if_pos c] at h; cases h
    · rw [if_neg c] at h
      simp only [Option.some.injEq, Prod.mk.injEq] at h
      obtain ⟨rfl, rfl⟩ := h
      exact ⟨v, rfl, iint_some hnum _ hn hv c⟩
include hnum in
theorem inumber_none {n : Nat} (hn : n ≤ b.length) (h : rnumber num n = none) : Ev (fun k => impl_docReader_int.f k b (n : Int) false 2000000000000) (0, (n : Int), true) := by
  unfold rnumber at h
  cases hv : num n with
  | none => exact iint_none hnum _ hn hv
  | some p =>
    obtain ⟨v, m1⟩ := p
    rw [hv] at h
    simp only at h
    by_cases c : v > 2000000000000
    · exact iint_over hnum _ hn hv c
    · rw [if_neg c] at h; cases h
theorem il2_bad (x10 x11 a : Int) (id : ByteArray) (vals : List S66) (f : ByteArray) (ts : List ByteArray) (hv : vals.length < 2199023255552) : Ev (fun k => impl_docReader_doc.l2 k x10 x11 0 0 b a true id vals f ts []) (id, vals ++ [⟨f, ts, []⟩], a, true) := by
  refine Ev.step (fun k => by rw [impl_docReader_doc.l2]) ?_
  refine Ev.neg (by omega) (Ev.pos hv ?_)
  exact Ev.bind (Ev.now _) (Ev.pos rfl (Ev.now _))
theorem il1_bad (x10 x11 a : Int) (id : ByteArray) (vals : List S66) (f : ByteArray) (hv : vals.length < 2199023255552) : Ev (fun k => impl_docReader_doc.l1 k x10 x11 0 0 b a true id vals f []) (id, vals ++ [⟨f, [], []⟩], a, true) := by
  refine Ev.step (fun k => by rw [impl_docReader_doc.l1]) ?_
  exact Ev.neg (by omega) (Ev.bind (iint_bad _ _) (il2_bad _ _ _ _ _ _ _ hv))
include hl hnum in
theorem il1_some (x10 x11 : Int) (id : ByteArray) (vals : List S66) (f : ByteArray) (C : Nat) (hC : C ≤ 4096) (r : ByteArray × List S66 × Int × Bool) (c : Nat) : ∀ (j n : Nat) (acc : List ByteArray) (ts : List ByteArray) (m : Nat), j + c = C → n ≤ b.length → acc.length + c ≤ 4096 → rtexts b num c n acc = some (ts, m) →
    Ev (fun k => (impl_docReader_int.f k b (m : Int) false 4096).bind fun bt210 => (impl_docReader_doc.l2 k x10 x11 bt210.1 0 b bt210.2.1 bt210.2.2 id vals f ts ([] : List Int))) r → Ev (fun k => impl_docReader_doc.l1 k x10 x11 (C : Int) (j : Int) b (n : Int) false id vals f acc) r := by
  induction c with
  | zero =>
    intro j n acc ts m hj hn ha h hr
    simp only [rtexts, Option.some.injEq, Prod.mk.injEq] at h
    obtain ⟨rfl, rfl⟩ := h
    refine Ev.step (fun k => by rw [impl_docReader_doc.l1]) ?_
    exact Ev.neg (by omega) hr
  | succ c ih =>
    intro j n acc ts m hj hn ha h hr
    rw [rtexts] at h
    obtain ⟨⟨t, m1⟩, h1, h2⟩ := Option.bind_eq_some_iff.1 h
    refine Ev.step (fun k => by rw [impl_docReader_doc.l1, wnD j (by omega)]) ?_
    refine Ev.pos (by omega) (Ev.bind (itext_some hl hnum hn h1) (Ev.pos (by omega) (Ev.neg Bool.false_ne_true ?_)))
    exact ih (j + 1) m1 _ ts m (by omega) (rtext_le hnum hn h1) (by rw [List.length_append, List.length_singleton]; omega) h2 hr
include hl hnum in
theorem il1_none (x10 x11 : Int) (id : ByteArray) (vals : List S66) (f : ByteArray) (C : Nat) (hC : C ≤ 4096) (c : Nat) : ∀ (j n : Nat) (acc : List ByteArray), j + c = C → n ≤ b.length → acc.length + c ≤ 4096 → rtexts b num c n acc = none →
    ∃ r : ByteArray × List S66 × Int × Bool, r.2.2.2 = true ∧ Ev (fun k => impl_docReader_doc.l1 k x10 x11 (C : Int) (j : Int) b (n : Int) false id vals f acc) r := by
  induction c with
  | zero => intro j n acc hj hn ha h; simp [rtexts] at h
  | succ c ih =>
    intro j n acc hj hn ha h
    rw [rtexts] at h
    cases h1 : rtext b num n with
    | none =>
      obtain ⟨a, ha', ht⟩ := itext_none hl hnum hn h1
      refine ⟨(id, vals, (a : Int), true), rfl, ?_⟩
      refine Ev.step (fun k => by rw [impl_docReader_doc.l1, wnD j (by omega)]) ?_
      exact Ev.pos (by omega) (Ev.bind ht (Ev.pos (by omega) (Ev.pos rfl (Ev.now _))))
    | some p =>
      obtain ⟨t, m1⟩ := p
      rw [h1] at h
      obtain ⟨r, hr, hE⟩ := ih (j + 1) m1 (acc ++ [t]) (by omega) (rtext_le hnum hn h1) (by rw [List.length_append, List.length_singleton]; omega) h
      refine ⟨r, hr, ?_⟩
      refine Ev.step (fun k => by rw [impl_docReader_doc.l1, wnD j (by omega)]) ?_
      exact Ev.pos (by omega) (Ev.bind (itext_some hl hnum hn h1) (Ev.pos (by omega) (Ev.neg Bool.false_ne_true hE)))
include hnum in
theorem il2_some (x10 x11 : Int) (id : ByteArray) (vals : List S66) (f : ByteArray) (ts : List ByteArray) (hv : vals.length < 2199023255552) (C : Nat) (hC : C ≤ 4096) (r : ByteArray × List S66 × Int × Bool) (c : Nat) : ∀ (j n : Nat) (acc : List Int) (ns : List Int) (m : Nat), j + c = C → n ≤ b.length → acc.length + c ≤ 4096 → rnums num c n acc = some (ns, m) →
    Ev (fun k => impl_docReader_doc.l0 k x10 (wrap64 (x11 + 1)) b (m : Int) false id (vals ++ [⟨f, ts, ns⟩])) r → Ev (fun k => impl_docReader_doc.l2 k x10 x11 (C : Int) (j : Int) b (n : Int) false id vals f ts acc) r := by
  induction c with
  | zero =>
    intro j n acc ns m hj hn ha h hr
    simp only [rnums, Option.some.injEq, Prod.mk.injEq] at h
    obtain ⟨rfl, rfl⟩ := h
    refine Ev.step (fun k => by rw [impl_docReader_doc.l2]) ?_
    refine Ev.neg (by omega) (Ev.pos hv ?_)
    exact Ev.bind (Ev.now _) (Ev.neg Bool.false_ne_true hr)
  | succ c ih =>
    intro j n acc ns m hj hn ha h hr
    rw [rnums] at h
    obtain ⟨⟨t, m1⟩, h1, h2⟩ := Option.bind_eq_some_iff.1 h
    obtain ⟨v, rfl, hi⟩ := inumber_some hnum hn h1
    have hE := ih (j + 1) m1 _ ns m (by omega) (rnumber_le hnum hn h1) (by rw [List.length_append, List.length_singleton]; omega) h2 hr
    refine Ev.step (fun k => by rw [impl_docReader_doc.l2, wnD j (by omega)]) ?_
    refine Ev.pos (by omega) (Ev.bind hi ?_)
    unfold numOf at hE
    by_cases d : Int.tmod v 2 = 1
    · simp only [if_pos d] at hE
      exact Ev.pos d (Ev.pos (by omega) (Ev.neg Bool.false_ne_true hE))
    · simp only [if_neg d] at hE
      exact Ev.neg d (Ev.pos (by omega) (Ev.neg Bool.false_ne_true hE))
include hnum in
theorem il2_none (x10 x11 : Int) (id : ByteArray) (vals : List S66) (f : ByteArray) (ts : List ByteArray) (C : Nat) (hC : C ≤ 4096) (c : Nat) : ∀ (j n : Nat) (acc : List Int), j + c = C → n ≤ b.length → acc.length + c ≤ 4096 → rnums num c n acc = none →
    ∃ r : ByteArray × List S66 × Int × Bool, r.2.2.2 = true ∧ Ev (fun k => impl_docReader_doc.l2 k x10 x11 (C : Int) (j : Int) b (n : Int) false id vals f ts acc) r := by
  induction c with
  | zero => intro j n acc hj hn ha h; simp [rnums] at h
  | succ c ih =>
    intro j n acc hj hn ha h
    rw [rnums] at h
    cases h1 : rnumber num n with
    | none =>
      have ht := inumber_none hnum hn h1
      refine ⟨(id, vals, (n : Int), true), rfl, ?_⟩
      refine Ev.step (fun k => by rw [impl_docReader_doc.l2, wnD j (by omega)]) ?_
      exact Ev.pos (by omega) (Ev.bind ht (Ev.neg (by simp) (Ev.pos (by omega) (Ev.pos rfl (Ev.now _)))))
    | some p =>
      obtain ⟨t, m1⟩ := p
      rw [h1] at h
      obtain ⟨v, rfl, hi⟩ := inumber_some hnum hn h1
      obtain ⟨r, hr, hE⟩ := ih (j + 1) m1 (acc ++ [numOf v]) (by omega) (rnumber_le hnum hn h1) (by rw [List.length_append, List.length_singleton]; omega) h
      refine ⟨r, hr, ?_⟩
      refine Ev.step (fun k => by rw [impl_docReader_doc.l2, wnD j (by omega)]) ?_
      refine Ev.pos (by omega) (Ev.bind hi ?_)
      unfold numOf at hE
      by_cases d : Int.tmod v 2 = 1
      · simp only [if_pos d] at hE
        exact Ev.pos d (Ev.pos (by omega) (Ev.neg Bool.false_ne_true hE))
      · simp only [if_neg d] at hE
        exact Ev.neg d (Ev.pos (by omega) (Ev.neg Bool.false_ne_true hE))
include hl hnum in
theorem il0_good (id : ByteArray) (N : Nat) (hN : N ≤ 4096) (c : Nat) : ∀ (i n : Nat) (vals : List S66), i + c = N → n ≤ b.length → vals.length + c ≤ 4096 →
    ∃ r : ByteArray × List S66 × Int × Bool, Good ((rvals b num c n vals).bind fun t => some (id, t.1, t.2)) r ∧ Ev (fun k => impl_docReader_doc.l0 k (N : Int) (i : Int) b (n : Int) false id vals) r := by
  induction c with
  | zero =>
    intro i n vals hi hn hv
    refine ⟨(id, vals, (n : Int), false), rfl, ?_⟩
    refine Ev.step (fun k => by rw [impl_docReader_doc.l0]) ?_
    exact Ev.neg (by omega) (Ev.now _)
  | succ c ih =>
    intro i n vals hi hn hv
    have hv' : vals.length < 2199023255552 := by omega
    suffices hs : ∃ r : ByteArray × List S66 × Int × Bool, Good ((rvals b num (c + 1) n vals).bind fun t => some (id, t.1, t.2)) r ∧ Ev (fun k => (impl_docReader_text.f k b (n : Int) false).bind fun bt197 => ((impl_docReader_int.f k b bt197.2.1 bt197.2.2 4096).bind fun bt201 => (impl_docReader_doc.l1 k (N : Int) (i : Int) bt201.1 0 b bt201.2.1 bt201.2.2 id vals bt197.1 ([] : List ByteArray)))) r by
      obtain ⟨r, hg, hr⟩ := hs
      refine ⟨r, hg, ?_⟩
      refine Ev.step (fun k => by rw [impl_docReader_doc.l0]) ?_
      exact Ev.pos (by omega) hr
    rw [rvals]
    unfold rval
    cases h1 : rtext b num n with
    | none =>
      obtain ⟨a, ha, ht⟩ := itext_none hl hnum hn h1
      exact ⟨_, (by rfl), Ev.bind ht (Ev.bind (iint_bad _ _) (il1_bad _ _ _ _ _ _ hv'))⟩
    | some p =>
      obtain ⟨f, m1⟩ := p
      have l1 := rtext_le hnum hn h1
      have ht := itext_some hl hnum hn h1
      simp only [Option.bind_some]
      cases h2 : rcount num m1 with
      | none =>
        have hc := icount_none hnum l1 h2
        exact ⟨_, (by rfl), Ev.bind ht (Ev.bind hc (il1_bad _ _ _ _ _ _ hv'))⟩
      | some p =>
        obtain ⟨c1, m2⟩ := p
        have l2 := rcount_le hnum l1 h2
        have hc := icount_some hnum l1 h2
        simp only [Option.bind_some]
        cases h3 : rtexts b num c1 m2 [] with
        | none =>
          obtain ⟨r, hr, hE⟩ := il1_none hl hnum (N : Int) (i : Int) id vals f c1 l2.2 c1 0 m2 [] (by omega) l2.1 (by simp only [List.length_nil]; omega) h3
          exact ⟨r, hr, Ev.bind ht (Ev.bind hc hE)⟩
        | some p =>
          obtain ⟨ts, m3⟩ := p
          have l3 := rtexts_le hnum _ _ _ _ _ l2.1 h3
          have H := fun r => il1_some hl hnum (N : Int) (i : Int) id vals f c1 l2.2 r c1 0 m2 [] ts m3 (by omega) l2.1 (by simp only [List.length_nil]; omega) h3
          simp only [Option.bind_some]
          suffices hs : ∃ r : ByteArray × List S66 × Int × Bool, Good (((((rcount num m3).bind fun q2 => (rnums num q2.1 q2.2 []).bind fun u => some ((⟨f, ts, u.1⟩ : S66), u.2)).bind fun p => rvals b num c p.2 (vals ++ [p.1])).bind fun t => some (id, t.1, t.2))) r ∧ Ev (fun k => (impl_docReader_int.f k b (m3 : Int) false 4096).bind fun bt210 => (impl_docReader_doc.l2 k (N : Int) (i : Int) bt210.1 0 b bt210.2.1 bt210.2.2 id vals f ts ([] : List Int))) r by
            obtain ⟨r, hg, hr⟩ := hs
            exact ⟨r, hg, Ev.bind ht (Ev.bind hc (H r hr))⟩
          cases h4 : rcount num m3 with
          | none =>
            have hc2 := icount_none hnum l3.1 h4
            exact ⟨_, (by rfl), Ev.bind hc2 (il2_bad _ _ _ _ _ _ _ hv')⟩
          | some p =>
            obtain ⟨c2, m4⟩ := p
            have l4 := rcount_le hnum l3.1 h4
            have hc2 := icount_some hnum l3.1 h4
            simp only [Option.bind_some]
            cases h5 : rnums num c2 m4 [] with
            | none =>
              obtain ⟨r, hr, hE⟩ := il2_none hnum (N : Int) (i : Int) id vals f ts c2 l4.2 c2 0 m4 [] (by omega) l4.1 (by simp only [List.length_nil]; omega) h5
              exact ⟨r, hr, Ev.bind hc2 hE⟩
            | some p =>
              obtain ⟨ns, m5⟩ := p
              have l5 := rnums_le hnum _ _ _ _ _ l4.1 h5
              obtain ⟨r, hg, hE⟩ := ih (i + 1) m5 (vals ++ [⟨f, ts, ns⟩]) (by omega) l5.1 (by rw [List.length_append, List.length_singleton]; omega)
              rw [← wnD i (by omega)] at hE
              exact ⟨r, hg, Ev.bind hc2 (il2_some hnum (N : Int) (i : Int) id vals f ts hv' c2 l4.2 r c2 0 m4 [] ns m5 (by omega) l4.1 (by simp only [List.length_nil]; omega) h5 hE)⟩
include hl hnum in
theorem idoc_good : ∃ r : ByteArray × List S66 × Int × Bool, Good (rdoc b num) r ∧ Ev (fun k => impl_docReader_doc.f k b 0 false) r := by
  unfold rdoc impl_docReader_doc.f
  have l0bad : ∀ (a : Int) (id : ByteArray), Ev (fun k => impl_docReader_doc.l0 k 0 0 b a true id []) (id, [], a, true) := fun a id => by
    refine Ev.step (fun k => by rw [impl_docReader_doc.l0]) ?_
    exact Ev.neg (by omega) (Ev.now _)
  cases h1 : rtext b num 0 with
  | none =>
    obtain ⟨a, ha, ht⟩ := itext_none hl hnum (Nat.zero_le _) h1
    exact ⟨_, (by rfl), Ev.bind ht (Ev.bind (iint_bad _ _) (l0bad _ _))⟩
  | some p =>
    obtain ⟨id, m1⟩ := p
    have l1 := rtext_le hnum (Nat.zero_le _) h1
    have ht := itext_some hl hnum (Nat.zero_le _) h1
    simp only [Option.bind_some]
    cases h2 : rcount num m1 with
    | none =>
      have hc := icount_none hnum l1 h2
      exact ⟨_, (by rfl), Ev.bind ht (Ev.bind hc (l0bad _ _))⟩
    | some p =>
      obtain ⟨c, m2⟩ := p
      have l2 := rcount_le hnum l1 h2
      have hc := icount_some hnum l1 h2
      obtain ⟨r, hg, hE⟩ := il0_good hl hnum id c l2.2 c 0 m2 [] (by omega) l2.1 (by simp only [List.length_nil]; omega)
      exact ⟨r, hg, Ev.bind ht (Ev.bind hc hE)⟩
end
theorem read_both (b : List Int) (hl : b.length ≤ 1048576) (hb : ∀ x ∈ b, 0 ≤ x ∧ x ≤ 255) : ∃ (id : ByteArray) (vs : List S66) (e : Int), vs.length ≤ 4096 ∧ id.size ≤ 1048576 ∧ (∀ v ∈ vs, okW v) ∧ Ev (fun k => spec_ReadDoc.f k b) (id, vs, e) ∧ Ev (fun k => impl_ReadDoc.f k b) (id, vs, e) := by
  obtain ⟨num, hnum⟩ := told_ex b hl hb
  obtain ⟨r1, g1, e1⟩ := sdoc_good hl hnum
  obtain ⟨r2, g2, e2⟩ := idoc_good hl hnum
  unfold spec_ReadDoc.f impl_ReadDoc.f
  cases h : rdoc b num with
  | none =>
    rw [h] at g1 g2
    exact ⟨(⟨#[]⟩ : ByteArray), [], 15, (by simp), Nat.zero_le _, (by simp), Ev.neg (by omega) (Ev.bind e1 (Ev.pos g1 (Ev.now _))), Ev.neg (by omega) (Ev.bind e2 (Ev.pos g2 (Ev.now _)))⟩
  | some p =>
    obtain ⟨id, vs, m⟩ := p
    rw [h] at g1 g2
    obtain rfl : r1 = (id, vs, (m : Int), false) := g1
    obtain rfl : r2 = (id, vs, (m : Int), false) := g2
    unfold rdoc at h
    obtain ⟨⟨f, m1⟩, h1, h⟩ := Option.bind_eq_some_iff.1 h
    obtain ⟨⟨c, m2⟩, h2, h⟩ := Option.bind_eq_some_iff.1 h
    obtain ⟨⟨vs', m3⟩, h3, h⟩ := Option.bind_eq_some_iff.1 h
    simp only [Option.some.injEq, Prod.mk.injEq] at h
    obtain ⟨rfl, rfl, rfl⟩ := h
    have l1 := rtext_le hnum (Nat.zero_le _) h1
    have l2 := rcount_le hnum l1 h2
    have l3 := rvals_le hnum _ _ _ _ _ l2.1 (by simp) h3
    simp only [List.length_nil] at l3
    by_cases c : (m3 : Int) = (b.length : Int)
    · exact ⟨f, vs', 0, by omega, rtext_size (Nat.zero_le _) hl h1, l3.2.2, Ev.neg (by omega) (Ev.bind e1 (Ev.neg Bool.false_ne_true (Ev.pos c (Ev.now _)))), Ev.neg (by omega) (Ev.bind e2 (Ev.neg Bool.false_ne_true (Ev.pos c (Ev.now _))))⟩
    · exact ⟨(⟨#[]⟩ : ByteArray), [], 15, (by simp), Nat.zero_le _, (by simp), Ev.neg (by omega) (Ev.bind e1 (Ev.neg Bool.false_ne_true (Ev.neg c (Ev.now _)))), Ev.neg (by omega) (Ev.bind e2 (Ev.neg Bool.false_ne_true (Ev.neg c (Ev.now _))))⟩

/-! the program's -/
theorem within_ev (n : Int) : impl_within.f n (-1000000000000) 1000000000000 = some (numOK n) := by
  unfold impl_within.f numOK
  split
  · congr 1; rw [Bool.eq_iff_iff]; simp; omega
  · rename_i h; rw [decide_eq_false (by omega)]
theorem d2_ev (id : ByteArray) (l : List S66) (i : Nat) (v : S66) (hv : okV v) (r : List Int × Int) (d : Nat) : ∀ j, j + d = v.f2.length → ((v.f2.drop j).all numOK = true → Ev (fun k => impl_DocBytes.l0 k l (l.length : Int) (wrap64 ((i : Int) + 1)) id l) r) → Ev (fun k => impl_DocBytes.l2 k l (l.length : Int) (i : Int) v.f2 (v.f2.length : Int) (j : Int) id l) (if (v.f2.drop j).all numOK then r else ([], 12)) := by
  obtain ⟨h1, h2⟩ := hv
  induction d with
  | zero =>
    intro j hj hc
    rw [List.drop_of_length_le (by omega)] at hc ⊢
    exact Ev.step (fun k => by rw [impl_DocBytes.l2, if_neg (by omega)]) (hc rfl)
  | succ d ih =>
    intro j hj hc
    rw [drop_at _ j (by omega), List.all_cons] at hc ⊢
    refine Ev.step (fun k => by rw [impl_DocBytes.l2, if_pos (by omega), if_pos (by omega), if_pos (by omega), rdI_at _ _ (by omega), wnD j (by omega), within_ev, Option.bind_some]) ?_
    by_cases c : numOK v.f2[j] = true
    · rw [c, Bool.true_and] at hc ⊢; exact Ev.pos rfl (ih (j + 1) (by omega) hc)
    · rw [Bool.eq_false_iff.2 c, Bool.false_and]; exact Ev.neg Bool.false_ne_true (Ev.now _)
theorem d1_ev (id : ByteArray) (l : List S66) (i : Nat) (v : S66) (hv : okV v) (r : List Int × Int) (d : Nat) : ∀ j, j + d = v.f1.length → (((v.f1.drop j).all txtOK && v.f2.all numOK) = true → Ev (fun k => impl_DocBytes.l0 k l (l.length : Int) (wrap64 ((i : Int) + 1)) id l) r) → Ev (fun k => impl_DocBytes.l1 k l (l.length : Int) (i : Int) v.f1 (v.f1.length : Int) (j : Int) id l v.f0 v.f1 v.f2) (if (v.f1.drop j).all txtOK && v.f2.all numOK then r else ([], 12)) := by
  have h1 := hv.1
  induction d with
  | zero =>
    intro j hj hc
    rw [List.drop_of_length_le (by omega)] at hc ⊢
    have h := d2_ev id l i v hv r v.f2.length 0 (by omega) (by rw [List.drop_zero]; exact hc)
    rw [List.drop_zero, n0] at h
    exact Ev.step (fun k => by rw [impl_DocBytes.l1, if_neg (by omega)]) h
  | succ d ih =>
    intro j hj hc
    rw [drop_at _ j (by omega), List.all_cons] at hc ⊢
    refine Ev.step (fun k => by rw [impl_DocBytes.l1, if_pos (by omega), if_pos (by omega), if_pos (by omega), rdS_at _ _ (by omega), wnD j (by omega)]) ?_
    by_cases c : ((v.f1[j]).size : Int) > 65536
    · rw [show txtOK v.f1[j] = false from decide_eq_false (by omega), Bool.false_and, Bool.false_and]; exact Ev.pos c (Ev.now _)
    · rw [show txtOK v.f1[j] = true from decide_eq_true (by omega), Bool.true_and] at hc ⊢; exact Ev.neg c (ih (j + 1) (by omega) hc)
theorem d0_ev (id : ByteArray) (l : List S66) (hn : l.length ≤ 1048576) (hl : ∀ v ∈ l, okV v) (r : List Int × Int) (hc : l.all valOK = true → Ev (fun k => (impl_putText.f k ([] : List Int) id).bind fun t249 => ((impl_putInt.f k t249 (l.length : Int)).bind fun t252 => (impl_DocBytes.l3 k t252 l (l.length : Int) 0))) r) (d : Nat) : ∀ i, i + d = l.length → (l.take i).all valOK = true → Ev (fun k => impl_DocBytes.l0 k l (l.length : Int) (i : Int) id l) (if (l.drop i).all valOK then r else ([], 12)) := by
  induction d with
  | zero =>
    intro i hi ht
    rw [List.drop_of_length_le (by omega)]
    rw [List.take_of_length_le (by omega)] at ht
    exact Ev.step (fun k => by rw [impl_DocBytes.l0, if_neg (by omega)]) (hc ht)
  | succ d ih =>
    intro i hi ht
    have hi' : i < l.length := by omega
    have hv := hl _ (List.getElem_mem hi')
    have hc2 := fun h2 : valOK l[i] = true => ih (i + 1) (by omega) (by rw [List.take_succ_eq_append_getElem hi', List.all_append, ht, Bool.true_and]; simp [h2])
    rw [← wnD i (by omega)] at hc2
    rw [drop_at _ i hi', List.all_cons]
    refine Ev.step (fun k => by rw [impl_DocBytes.l0, if_pos (by omega), if_pos (by omega), if_pos (by omega), rd66_at _ _ hi']) ?_
    generalize l[i] = v at hv hc2 ⊢
    have no : valOK v = false → Ev (fun _ => some (([] : List Int), (12 : Int))) (if (valOK v && (l.drop (i + 1)).all valOK) = true then r else ([], 12)) := fun hb => by
      rw [hb, Bool.false_and]; exact Ev.now _
    by_cases c1 : (v.f0.size : Int) > 65536
    · exact Ev.pos c1 (Ev.step (fun k => by rw [impl_DocBytes.j2]) (Ev.pos rfl (no (valOK_f v (by omega)))))
    · refine Ev.neg c1 ?_
      by_cases c2 : (v.f1.length : Int) > 4096
      · exact Ev.pos c2 (Ev.step (fun k => by rw [impl_DocBytes.j2]) (Ev.pos rfl (no (valOK_f v (by omega)))))
      · refine Ev.neg c2 (Ev.step (fun k => by rw [impl_DocBytes.j2]) ?_)
        by_cases c3 : (v.f2.length : Int) > 4096
        · rw [decide_eq_true c3]
          exact Ev.pos rfl (no (valOK_f v (by omega)))
        · rw [decide_eq_false c3]
          refine Ev.neg Bool.false_ne_true ?_
          have ev : valOK v = (v.f1.all txtOK && v.f2.all numOK) := valOK_t v (by omega)
          have h := d1_ev id l i v hv _ v.f1.length 0 (by omega) (by rw [List.drop_zero, ← ev]; exact hc2)
          rw [List.drop_zero, ← ev, n0] at h
          cases hb : valOK v with
          | true => rw [hb] at h; rw [Bool.true_and]; exact h
          | false => rw [hb] at h; rw [Bool.false_and]; exact h
theorem putNI_ev (pre : List Int) (n : Int) (hn : numOK n = true) (h : pre.length ≤ 140737488355000) : Ev (fun k => if n < 0 then impl_putInt.f k pre (wrap64 ((wrap64 ((-2) * n)) - 1)) else impl_putInt.f k pre (wrap64 (2 * n))) (pre ++ nb n) := by
  have hv := nv_ok n hn
  have hb := of_decide_eq_true hn
  by_cases c : n < 0
  · have e1 : wrap64 ((-2) * n) = -2 * n := w64 (by omega) (by omega)
    have e2 : wrap64 (-2 * n - 1) = nv n := by rw [w64 (by omega) (by omega)]; unfold nv; rw [if_pos c]
    rw [e1, e2]
    exact Ev.pos c (putI_ev pre _ h hv.1 (by omega))
  · have e2 : wrap64 (2 * n) = nv n := by rw [w64 (by omega) (by omega)]; unfold nv; rw [if_neg c]
    rw [e2]
    exact Ev.neg c (putI_ev pre _ h hv.1 (by omega))
theorem d5_ev (l : List S66) (i : Nat) (v : S66) (h2 : v.f2.length ≤ 4096) (hN : ∀ n ∈ v.f2, numOK n = true) (r : List Int × Int) (d : Nat) : ∀ j pre, j + d = v.f2.length → pre.length + 9 * d ≤ 140737488350000 →
    Ev (fun k => impl_DocBytes.l3 k (pre ++ (v.f2.drop j).flatMap nb) l (l.length : Int) (wrap64 ((i : Int) + 1))) r → Ev (fun k => impl_DocBytes.l5 k pre l (l.length : Int) (i : Int) v.f2 (v.f2.length : Int) (j : Int)) r := by
  induction d with
  | zero =>
    intro j pre hj hp hc
    rw [List.drop_of_length_le (by omega), List.flatMap_nil, List.append_nil] at hc
    exact Ev.step (fun k => by rw [impl_DocBytes.l5, if_neg (by omega)]) hc
  | succ d ih =>
    intro j pre hj hp hc
    rw [drop_at _ j (by omega), List.flatMap_cons, ← List.append_assoc] at hc
    refine Ev.step (fun k => by rw [impl_DocBytes.l5, if_pos (by omega), if_pos (by omega), if_pos (by omega), rdI_at _ _ (by omega), wnD j (by omega)]) ?_
    have hq := (pb_len (nv (v.f2[j]'(by omega)))).2
    have hp2 := putNI_ev pre _ (hN _ (List.getElem_mem (show j < v.f2.length by omega))) (by omega)
    have hi := ih (j + 1) _ (by omega) (by rw [List.length_append]; unfold nb; omega) hc
    generalize v.f2[j]'(by omega) = n at hp2 hi ⊢
    by_cases c : n < 0
    · refine Ev.pos c (Ev.bind (Ev.congr (fun k => (if_pos c).symm) hp2) hi)
    · refine Ev.neg c (Ev.bind (Ev.congr (fun k => (if_neg c).symm) hp2) hi)
theorem d4_ev (l : List S66) (i : Nat) (v : S66) (h1 : v.f1.length ≤ 4096) (h2 : v.f2.length ≤ 4096) (hT : ∀ t ∈ v.f1, t.size ≤ 65536) (hN : ∀ n ∈ v.f2, numOK n = true) (r : List Int × Int) (d : Nat) : ∀ j pre, j + d = v.f1.length → pre.length + 65545 * d ≤ 140737488300000 →
    Ev (fun k => impl_DocBytes.l3 k (pre ++ ((v.f1.drop j).flatMap tb ++ (pb (v.f2.length : Int) ++ v.f2.flatMap nb))) l (l.length : Int) (wrap64 ((i : Int) + 1))) r → Ev (fun k => impl_DocBytes.l4 k pre l (l.length : Int) (i : Int) v.f1 (v.f1.length : Int) (j : Int) v.f0 v.f1 v.f2) r := by
  induction d with
  | zero =>
    intro j pre hj hp hc
    have hq := pb_len (v.f2.length : Int)
    rw [List.drop_of_length_le (by omega), List.flatMap_nil, List.nil_append, ← List.append_assoc] at hc
    refine Ev.step (fun k => by rw [impl_DocBytes.l4, if_neg (by omega)]) ?_
    refine Ev.bind (putI_ev pre _ (by omega) (by omega) (by omega)) ?_
    exact d5_ev l i v h2 hN r v.f2.length 0 _ (by omega) (by rw [List.length_append]; omega) (by rw [List.drop_zero]; exact hc)
  | succ d ih =>
    intro j pre hj hp hc
    rw [drop_at _ j (by omega), List.flatMap_cons, List.append_assoc, ← List.append_assoc] at hc
    refine Ev.step (fun k => by rw [impl_DocBytes.l4, if_pos (by omega), if_pos (by omega), if_pos (by omega), rdS_at _ _ (by omega), wnD j (by omega)]) ?_
    have ht := hT _ (List.getElem_mem (show j < v.f1.length by omega))
    have hq := tb_len (v.f1[j]'(by omega))
    refine Ev.bind (putTI_ev pre _ (by omega)) ?_
    exact ih (j + 1) _ (by omega) (by rw [List.length_append]; omega) hc
theorem d3_ev (l : List S66) (hn : l.length ≤ 4096) (hl : ∀ v ∈ l, valOK v = true) (d : Nat) : ∀ i pre, i + d = l.length → pre.length + 300000000 * d ≤ 140737480000000 → Ev (fun k => impl_DocBytes.l3 k pre l (l.length : Int) (i : Int)) (pre ++ (l.drop i).flatMap vbytes, 0) := by
  induction d with
  | zero =>
    intro i pre hi hp
    rw [List.drop_of_length_le (by omega), List.flatMap_nil, List.append_nil]
    exact Ev.step (fun k => by rw [impl_DocBytes.l3, if_neg (by omega)]) (Ev.now _)
  | succ d ih =>
    intro i pre hi hp
    have hv := hl _ (List.getElem_mem (show i < l.length by omega))
    rw [drop_at _ i (by omega), List.flatMap_cons]
    refine Ev.step (fun k => by rw [impl_DocBytes.l3, if_pos (by omega), if_pos (by omega), if_pos (by omega), rd66_at _ _ (by omega)]) ?_
    generalize l[i]'(by omega) = v at hv ⊢
    have hvl := vbytes_len v hv
    obtain ⟨g1, g2, g3, g4, g5⟩ := valOK_parts v hv
    have e1 := tb_len v.f0
    have e2 := pb_len (v.f1.length : Int)
    have hc := ih (i + 1) (pre ++ vbytes v) (by omega) (by rw [List.length_append]; omega)
    rw [← wnD i (by omega)] at hc
    refine Ev.bind (putTI_ev pre _ (by omega)) ?_
    refine Ev.bind (putI_ev _ _ (by rw [List.length_append]; omega) (by omega) (by omega)) ?_
    refine d4_ev l i v g2 g3 g4 g5 _ v.f1.length 0 _ (by omega) (by simp only [List.length_append]; omega) ?_
    rw [List.drop_zero]
    have e : pre ++ tb v.f0 ++ pb (v.f1.length : Int) ++ (v.f1.flatMap tb ++ (pb (v.f2.length : Int) ++ v.f2.flatMap nb)) = pre ++ vbytes v := by unfold vbytes; simp only [List.append_assoc]
    rw [e, ← List.append_assoc]
    exact hc
theorem impl_DocBytes_ev (id : ByteArray) (l : List S66) (hn : l.length ≤ 1048576) (hl : ∀ v ∈ l, okV v) : Ev (fun k => impl_DocBytes.f k id l) (docTell id l) := by
  unfold impl_DocBytes.f
  by_cases c1 : (id.size : Int) > 65536
  · have e : docTell id l = ([], 12) := by unfold docTell; rw [fits_f id l (by omega)]; rfl
    rw [e]
    exact Ev.pos c1 (Ev.step (fun k => by rw [impl_DocBytes.j0]) (Ev.pos rfl (Ev.now _)))
  · refine Ev.neg c1 (Ev.step (fun k => by rw [impl_DocBytes.j0]) ?_)
    by_cases c2 : (l.length : Int) > 4096
    · have e : docTell id l = ([], 12) := by unfold docTell; rw [fits_f id l (by omega)]; rfl
      rw [e, decide_eq_true c2]
      exact Ev.pos rfl (Ev.now _)
    · have ef : fits id l = l.all valOK := fits_t id l (by omega)
      rw [decide_eq_false c2]
      refine Ev.neg Bool.false_ne_true ?_
      have h := d0_ev id l hn hl (dbytes id l, 0) (fun hall => ?_) l.length 0 (by omega) (by simp)
      · rw [List.drop_zero, ← ef, n0] at h
        unfold docTell
        exact h
      · have e1 := tb_len id
        have e2 := pb_len (l.length : Int)
        have h0 := putTI_ev [] id (by simp; omega)
        rw [List.nil_append] at h0
        refine Ev.bind h0 (Ev.bind (putI_ev _ _ (by omega) (by omega) (by omega)) ?_)
        have hb := d3_ev l (by omega) (List.all_eq_true.1 hall) l.length 0 (tb id ++ pb (l.length : Int)) (by omega) (by rw [List.length_append]; omega)
        rw [List.drop_zero, List.append_assoc] at hb
        exact hb

theorem sum_both (xs : List Int) (hn : xs.length ≤ 1048576) (hb : ∀ x ∈ xs, 0 ≤ x ∧ x ≤ 255) (d : Nat) : ∀ (k i : Nat) (h : Int), i + d = xs.length → d < k → 0 ≤ h → h < 4294967296 →
    ∃ r : Int, spec_Sum32.l0 k xs h i = some r ∧ impl_Sum32.l0 k h xs (xs.length : Int) i = some r ∧ 0 ≤ r ∧ r < 4294967296 := by
  induction d with
  | zero =>
    intro k i h hi hk h0 h1
    obtain ⟨k, rfl⟩ : ∃ m, k = m + 1 := ⟨k - 1, by omega⟩
    refine ⟨h, ?_, ?_, h0, h1⟩
    · rw [spec_Sum32.l0, if_neg (by omega)]
    · rw [impl_Sum32.l0, if_neg (by omega), w64 (by omega) (by omega)]
  | succ d ih =>
    intro k i h hi hk h0 h1
    obtain ⟨k, rfl⟩ : ∃ m, k = m + 1 := ⟨k - 1, by omega⟩
    have hr := hb _ (rd_mem xs i (by omega))
    obtain ⟨c, hc0, hc1, e1, e2⟩ := xor32 h (rd xs i) h0 h1 hr.1 (by omega)
    have e : ((i : Int) + 1) = ((i + 1 : Nat) : Int) := by omega
    obtain ⟨r, hs, hi', hr0, hr1⟩ := ih k (i + 1) ((c * 16777619) % 4294967296) (by omega) (by omega) (by omega) (by omega)
    refine ⟨r, ?_, ?_, hr0, hr1⟩
    · rw [spec_Sum32.l0, if_pos (by omega), if_pos (by omega), w64 (x := rd xs i) (by omega) (by omega), e1, w64 (x := c * 16777619) (by omega) (by omega), w64 (by omega) (by omega), e,
        Int.tmod_eq_emod_of_nonneg (by omega)]
      exact hs
    · rw [impl_Sum32.l0, if_pos (by omega), if_pos (by omega), if_pos (by omega), Int.emod_eq_of_lt hr.1 (by omega), e2, w64 (by omega) (by omega), e]
      exact hi'


/-! ### Records -/
theorem sum_fun' (xs : List Int) (hn : xs.length ≤ 1048576) (d : Nat) : ∀ (k k' i : Nat) (h r r' : Int), i + d = xs.length → d < k → d < k' → spec_Sum32.l0 k xs h (i : Int) = some r → spec_Sum32.l0 k' xs h (i : Int) = some r' → r = r' := by
  induction d with
  | zero =>
    intro k k' i h r r' hi hk hk' e1 e2
    obtain ⟨k, rfl⟩ : ∃ m, k = m + 1 := ⟨k - 1, by omega⟩
    obtain ⟨k', rfl⟩ : ∃ m, k' = m + 1 := ⟨k' - 1, by omega⟩
    rw [spec_Sum32.l0, if_neg (by omega)] at e1 e2
    exact Option.some.inj (e1.symm.trans e2)
  | succ d ih =>
    intro k k' i h r r' hi hk hk' e1 e2
    obtain ⟨k, rfl⟩ : ∃ m, k = m + 1 := ⟨k - 1, by omega⟩
    obtain ⟨k', rfl⟩ : ∃ m, k' = m + 1 := ⟨k' - 1, by omega⟩
    rw [spec_Sum32.l0, if_pos (by omega), if_pos (by omega), wnD i (by omega)] at e1 e2
    exact ih k k' (i + 1) _ r r' (by omega) (by omega) (by omega) e1 e2
theorem sum_ev (xs : List Int) (hb : ∀ x ∈ xs, 0 ≤ x ∧ x ≤ 255) : ∃ r : Int, 0 ≤ r ∧ r < 4294967296 ∧ Ev (fun k => spec_Sum32.f k xs) r ∧ Ev (fun k => impl_Sum32.f k xs) r := by
  by_cases h : (xs.length : Int) > 1048576
  · exact ⟨0, by omega, by omega, Ev.congr (fun k => by rw [spec_Sum32.f, if_pos h]) (Ev.now _), Ev.congr (fun k => by rw [impl_Sum32.f, if_pos h]) (Ev.now _)⟩
  · have hz := fun k (hk : xs.length < k) => sum_both xs (by omega) hb xs.length k 0 2166136261 (by omega) hk (by omega) (by omega)
    obtain ⟨r, e1, e2, h0, h1⟩ := hz (xs.length + 1) (by omega)
    have hm : ∀ k, xs.length < k → spec_Sum32.l0 k xs 2166136261 ((0 : Nat) : Int) = some r ∧ impl_Sum32.l0 k 2166136261 xs (xs.length : Int) ((0 : Nat) : Int) = some r := by
      intro k hk
      obtain ⟨r', g1, g2, _⟩ := hz k hk
      obtain rfl := sum_fun' xs (by omega) xs.length k (xs.length + 1) 0 2166136261 r' r (by omega) hk (by omega) g1 e1
      exact ⟨g1, g2⟩
    refine ⟨r, h0, h1, Ev.from xs.length (fun k hk => ?_), Ev.from xs.length (fun k hk => ?_)⟩
    · rw [spec_Sum32.f, if_neg h]; exact (hm k hk).1
    · rw [impl_Sum32.f, if_neg h]; exact (hm k hk).2
def f4 (r : Int) : List Int := [r / 16777216 % 256, r / 65536 % 256, r / 256 % 256, r % 256]
theorem four_spec (r : Int) (h0 : 0 ≤ r) (h1 : r < 4294967296) : spec_l04Four.f r = some (f4 r) := by
  unfold spec_l04Four.f f4
  have d1 : wrap64 (r / 16777216) = r / 16777216 := w64 (by omega) (by omega)
  have d2 : wrap64 (r / 65536) = r / 65536 := w64 (by omega) (by omega)
  have d3 : wrap64 (r / 256) = r / 256 := w64 (by omega) (by omega)
  simp only [Int.tdiv_eq_ediv_of_nonneg h0]
  rw [d1, d2, d3, Int.tmod_eq_emod_of_nonneg (a := r / 65536) (by omega), Int.tmod_eq_emod_of_nonneg (a := r / 256) (by omega), Int.tmod_eq_emod_of_nonneg h0]
  have e1 : r / 65536 % 256 % 256 = r / 65536 % 256 := by omega
  have e2 : r / 256 % 256 % 256 = r / 256 % 256 := by omega
  have e3 : r % 256 % 256 = r % 256 := by omega
  rw [e1, e2, e3]
theorem four_impl (r : Int) : impl_oFour.f r = some (f4 r) := rfl
theorem pb_bytes (n : Int) (h0 : 0 ≤ n) (h1 : n ≤ 9000000000000000000) : ∀ x ∈ pb n, 0 ≤ x ∧ x ≤ 255 := vb_bytes 8 n h0 (by rw [pow128_8]; omega)
theorem bytesOf_bytes (t : ByteArray) : ∀ x ∈ bytesOf t, 0 ≤ x ∧ x ≤ 255 := by
  intro x hx
  unfold bytesOf at hx
  obtain ⟨b, _, rfl⟩ := List.mem_map.1 hx
  have := UInt8.toNat_lt b
  omega
theorem tb_bytes (t : ByteArray) (h : t.size ≤ 1000000000) : ∀ x ∈ tb t, 0 ≤ x ∧ x ≤ 255 := by
  intro x hx
  unfold tb at hx
  rcases List.mem_append.1 hx with hx | hx
  · exact pb_bytes _ (by omega) (by omega) x hx
  · exact bytesOf_bytes t x hx
theorem vbytes_bytes (v : S66) (h : valOK v = true) : ∀ x ∈ vbytes v, 0 ≤ x ∧ x ≤ 255 := by
  obtain ⟨g1, g2, g3, g4, g5⟩ := valOK_parts v h
  intro x hx
  unfold vbytes at hx
  rcases List.mem_append.1 hx with hx | hx
  · exact tb_bytes _ (by omega) x hx
  rcases List.mem_append.1 hx with hx | hx
  · exact pb_bytes _ (by omega) (by omega) x hx
  rcases List.mem_append.1 hx with hx | hx
  · obtain ⟨t, ht, hx⟩ := List.mem_flatMap.1 hx
    exact tb_bytes t (by have := g4 t ht; omega) x hx
  rcases List.mem_append.1 hx with hx | hx
  · exact pb_bytes _ (by omega) (by omega) x hx
  · obtain ⟨n, hn, hx⟩ := List.mem_flatMap.1 hx
    have := nv_ok n (g5 n hn)
    exact pb_bytes _ this.1 (by omega) x hx
theorem dbytes_bytes (id : ByteArray) (l : List S66) (h : fits id l = true) : ∀ x ∈ dbytes id l, 0 ≤ x ∧ x ≤ 255 := by
  unfold fits at h
  rw [Bool.and_eq_true] at h
  obtain ⟨h1, h2⟩ := of_decide_eq_true h.1
  intro x hx
  unfold dbytes at hx
  rcases List.mem_append.1 hx with hx | hx
  · exact tb_bytes _ (by omega) x hx
  rcases List.mem_append.1 hx with hx | hx
  · exact pb_bytes _ (by omega) (by omega) x hx
  · obtain ⟨v, hv, hx⟩ := List.mem_flatMap.1 hx
    exact vbytes_bytes v (List.all_eq_true.1 h.2 v hv) x hx
/-! ids -/
def chk (b : Int) : Bool := decide (33 ≤ b ∧ b ≤ 126)
def idOK (t : ByteArray) : Bool := (bytesOf t).all chk && decide (1 ≤ t.size ∧ t.size ≤ 30)
theorem bt_at (t : ByteArray) (i : Nat) (h : i < (bytesOf t).length) : bt t (i : Int) = (bytesOf t)[i] := by
  rw [← rd_bytesOf]; exact rd_lt _ i h
theorem id_spec (t : ByteArray) (hn : t.size ≤ 1048576) : Ev (fun k => spec_l06Id.f k t) (idOK t) := by
  have hl := bytesOf_length t
  have key : ∀ d i, i + d = (bytesOf t).length → Ev (fun k => spec_l06Id.l0 k t (i : Int)) (((bytesOf t).drop i).all chk && decide (1 ≤ t.size ∧ t.size ≤ 30)) := by
    intro d
    induction d with
    | zero =>
      intro i hi
      rw [List.drop_of_length_le (by omega)]
      refine Ev.step (fun k => by rw [spec_l06Id.l0, if_neg (by omega)]) ?_
      rw [List.all_nil, Bool.true_and]
      by_cases c : (t.size : Int) ≥ 1
      · refine Ev.pos c ?_
        have e : decide ((t.size : Int) ≤ 30) = decide (1 ≤ t.size ∧ t.size ≤ 30) := by rw [Bool.eq_iff_iff]; simp; omega
        rw [e]; exact Ev.now _
      · rw [show decide (1 ≤ t.size ∧ t.size ≤ 30) = false from decide_eq_false (by omega)]; exact Ev.neg c (Ev.now _)
    | succ d ih =>
      intro i hi
      rw [drop_at _ i (by omega), List.all_cons]
      refine Ev.step (fun k => by rw [spec_l06Id.l0, if_pos (by omega), if_pos (by omega), bt_at t i (by omega), wnD i (by omega)]) ?_
      generalize hb : (bytesOf t)[i]'(by omega) = b
      by_cases c1 : b < 33
      · rw [show chk b = false from decide_eq_false (by omega), Bool.false_and, Bool.false_and]; exact Ev.pos c1 (Ev.now _)
      · by_cases c2 : b > 126
        · rw [show chk b = false from decide_eq_false (by omega), Bool.false_and, Bool.false_and]; exact Ev.neg c1 (Ev.pos c2 (Ev.now _))
        · rw [show chk b = true from decide_eq_true (by omega), Bool.true_and]; exact Ev.neg c1 (Ev.neg c2 (ih (i + 1) (by omega)))
  have h := key (bytesOf t).length 0 (by omega)
  rw [List.drop_zero] at h
  exact h
theorem id_impl (t : ByteArray) (hn : t.size ≤ 1048576) : Ev (fun k => impl_oIdOk.f k t) (idOK t) := by
  have hl := bytesOf_length t
  have key : ∀ d i, i + d = (bytesOf t).length → Ev (fun k => impl_oIdOk.l0 k t (t.size : Int) (i : Int)) (((bytesOf t).drop i).all chk) := by
    intro d
    induction d with
    | zero =>
      intro i hi
      rw [List.drop_of_length_le (by omega)]
      exact Ev.step (f := fun _ => some true) (fun k => by rw [impl_oIdOk.l0, if_neg (by omega)]) (Ev.now _)
    | succ d ih =>
      intro i hi
      rw [drop_at _ i (by omega), List.all_cons]
      refine Ev.step (fun k => by rw [impl_oIdOk.l0, if_pos (by omega), if_pos (by omega), if_pos (by omega), bt_at t i (by omega), wnD i (by omega)]) ?_
      generalize hb : (bytesOf t)[i]'(by omega) = b
      by_cases c1 : b < 33
      · rw [show chk b = false from decide_eq_false (by omega), Bool.false_and]; exact Ev.pos c1 (Ev.now _)
      · by_cases c2 : b > 126
        · rw [show chk b = false from decide_eq_false (by omega), Bool.false_and]; exact Ev.neg c1 (Ev.pos c2 (Ev.now _))
        · rw [show chk b = true from decide_eq_true (by omega), Bool.true_and]; exact Ev.neg c1 (Ev.neg c2 (ih (i + 1) (by omega)))
  unfold impl_oIdOk.f idOK
  by_cases c1 : (t.size : Int) < 1
  · rw [show decide (1 ≤ t.size ∧ t.size ≤ 30) = false from decide_eq_false (by omega), Bool.and_false]
    exact Ev.pos c1 (Ev.step (fun k => by rw [impl_oIdOk.j0]) (Ev.pos rfl (Ev.now _)))
  · by_cases c2 : (t.size : Int) > 30
    · rw [show decide (1 ≤ t.size ∧ t.size ≤ 30) = false from decide_eq_false (by omega), Bool.and_false, decide_eq_true c2]
      exact Ev.neg c1 (Ev.step (fun k => by rw [impl_oIdOk.j0]) (Ev.pos rfl (Ev.now _)))
    · rw [show decide (1 ≤ t.size ∧ t.size ≤ 30) = true from decide_eq_true (by omega), Bool.and_true, decide_eq_false c2]
      have h := key (bytesOf t).length 0 (by omega)
      rw [List.drop_zero, n0] at h
      exact Ev.neg c1 (Ev.step (fun k => by rw [impl_oIdOk.j0]) (Ev.neg Bool.false_ne_true h))
theorem putInt_ev (n : Int) (h0 : 0 ≤ n) (h1 : n ≤ 4611686018427387903) : Ev (fun k => impl_PutInt.f k n) (pb n, 0) := by
  unfold impl_PutInt.f
  refine Ev.bind (Ev.ofEq (r := true) (by unfold impl_within.f; rw [if_pos h0, decide_eq_true h1])) ?_
  refine Ev.pos rfl ?_
  have h := putI_ev [] n (by simp) h0 (by omega)
  rw [List.nil_append] at h
  exact Ev.bind h (Ev.now _)
def outR (all : List Int) : List Int × Int := if (all.length : Int) > 1048576 then ([], 2) else (all, 0)
theorem outR_len (all : List Int) : (outR all).1.length ≤ 1048576 := by
  unfold outR
  split
  · simp
  · simp only; omega
theorem tail_both (part : List Int) (hb : ∀ x ∈ part, 0 ≤ x ∧ x ≤ 255) (hl : part.length ≤ 3000000000000) : ∃ all : List Int, ((∃ t : List Int, t.length = 4 ∧ all = pb (part.length : Int) ++ part ++ t) ∧ ∀ x ∈ all, 0 ≤ x ∧ x ≤ 255) ∧
    Ev (fun k => (spec_l03Put.f k (part.length : Int)).bind fun t218 => (if t218.length + part.length < 140737488355328 then ((some (t218 ++ part : List Int)).bind fun y221 => ((spec_Sum32.f k part).bind fun t224 => ((spec_l04Four.f t224).bind fun t225 => (if y221.length + t225.length < 140737488355328 then (some (y221 ++ t225)) else (none))))) else (none))) all ∧
    Ev (fun k => impl_RecordBytes.j1 k part) (outR all) := by
  obtain ⟨r, h0, h1, hs, hi⟩ := sum_ev part hb
  have hp := pb_len (part.length : Int)
  have e4 : (f4 r).length = 4 := rfl
  have ea : (pb (part.length : Int) ++ part ++ f4 r).length = (pb (part.length : Int)).length + part.length + 4 := by simp only [List.length_append, e4]
  refine ⟨pb (part.length : Int) ++ part ++ f4 r, ⟨⟨f4 r, rfl, rfl⟩, fun x hx => ?_⟩, ?_, ?_⟩
  · rcases List.mem_append.1 hx with hx | hx
    · rcases List.mem_append.1 hx with hx | hx
      · exact pb_bytes _ (by omega) (by omega) x hx
      · exact hb x hx
    · unfold f4 at hx
      simp only [List.mem_cons, List.not_mem_nil, or_false] at hx
      omega
  · refine Ev.bind (putS_ev _ (by omega) (by omega)) (Ev.pos (by omega) ?_)
    refine Ev.bind (Ev.now _) (Ev.bind hs (Ev.bind (Ev.ofEq (four_spec r h0 h1)) (Ev.pos (by rw [List.length_append, e4]; omega) (Ev.now _))))
  · refine Ev.step (fun k => by rw [impl_RecordBytes.j1]) ?_
    refine Ev.bind (putInt_ev _ (by omega) (by omega)) ?_
    have w1 : wrap64 (((pb (part.length : Int)).length : Int) + (part.length : Int)) = ((pb (part.length : Int)).length : Int) + (part.length : Int) := w64 (by omega) (by omega)
    have w2 : wrap64 (((pb (part.length : Int)).length : Int) + (part.length : Int) + 4) = ((pb (part.length : Int)).length : Int) + (part.length : Int) + 4 := w64 (by omega) (by omega)
    simp only
    rw [w1, w2]
    by_cases c : ((pb (part.length : Int)).length : Int) + (part.length : Int) + 4 > 1048576
    · rw [show outR (pb (part.length : Int) ++ part ++ f4 r) = ([], 2) from if_pos (by omega)]; exact Ev.pos c (Ev.now _)
    · rw [show outR (pb (part.length : Int) ++ part ++ f4 r) = (_, 0) from if_neg (by omega)]
      refine Ev.neg c (Ev.pos (by omega) ?_)
      exact Ev.bind (Ev.now _) (Ev.bind hi (Ev.bind (Ev.ofEq (four_impl r)) (Ev.pos (by rw [List.length_append, e4]; omega) (Ev.now _))))
def eD (id : ByteArray) (l : List S66) : Bool := if id.toList = [] then ((l.length : Int) == 0) else false
theorem eD_spec (id : ByteArray) (l : List S66) : spec_l14EmptyDoc.f id l = some (eD id l) := by
  unfold spec_l14EmptyDoc.f eD
  split <;> rfl
theorem eD_impl (id : ByteArray) (l : List S66) : impl_oZeroDoc.f id l = some (eD id l) := by
  unfold impl_oZeroDoc.f eD
  split <;> rfl
/-- A record's bytes: those of a record that is in order alone are told. -/
theorem rec_tell (kind seq : Int) (id did : ByteArray) (l : List S66) (hi : id.size ≤ 1048576) (hdi : did.size ≤ 1048576) (hn : l.length ≤ 1048576) (hv : ∀ v ∈ l, okV v) : ∃ ok : Bool, Ev (fun k => spec_l14RecordOK.f k kind seq id did l) ok ∧
    ((ok = false ∧ Ev (fun k => impl_RecordBytes.f k kind seq id did l) (([] : List Int), (1 : Int))) ∨
     (ok = true ∧ (kind = 1 ∨ kind = 2) ∧ ∃ part all : List Int, part.length ≤ 3000000000000 ∧ ((∃ t : List Int, t.length = 4 ∧ all = pb (part.length : Int) ++ part ++ t) ∧ ∀ x ∈ all, 0 ≤ x ∧ x ≤ 255) ∧ Ev (fun k => spec_l14Bytes.f k kind seq id did l) all ∧ Ev (fun k => impl_RecordBytes.f k kind seq id did l) (outR all))) := by
  by_cases s1 : seq < 1
  · refine ⟨false, ?_, .inl ⟨rfl, ?_⟩⟩
    · exact Ev.congr (fun k => by rw [spec_l14RecordOK.f]) (Ev.pos s1 (Ev.step (fun k => by rw [spec_l14RecordOK.j0]) (Ev.pos rfl (Ev.now _))))
    · exact Ev.congr (fun k => by rw [impl_RecordBytes.f]) (Ev.pos s1 (Ev.step (fun k => by rw [impl_RecordBytes.j0]) (Ev.pos rfl (Ev.now _))))
  · by_cases s2 : seq > 4611686018427387903
    · refine ⟨false, ?_, .inl ⟨rfl, ?_⟩⟩
      · exact Ev.congr (fun k => by rw [spec_l14RecordOK.f, decide_eq_true s2]) (Ev.neg s1 (Ev.step (fun k => by rw [spec_l14RecordOK.j0]) (Ev.pos rfl (Ev.now _))))
      · exact Ev.congr (fun k => by rw [impl_RecordBytes.f, decide_eq_true s2]) (Ev.neg s1 (Ev.step (fun k => by rw [impl_RecordBytes.j0]) (Ev.pos rfl (Ev.now _))))
    · have spOK : ∀ b : Bool, Ev (fun k => if kind = 1 then (if id.toList = ([] : List UInt8) then ((spec_l06Id.f k did).bind fun t123 => (if t123 = true then ((spec_l06Fits.f k did l).bind fun t124 => (some t124)) else (some false))) else (some false)) else (if kind = 2 then ((spec_l06Id.f k id).bind fun t125 => (if t125 = true then ((spec_l14EmptyDoc.f did l).bind fun t126 => (some t126)) else (some false))) else (some false))) b → Ev (fun k => spec_l14RecordOK.f k kind seq id did l) b := fun b h =>
        Ev.congr (fun k => by rw [spec_l14RecordOK.f, decide_eq_false s2]) (Ev.neg s1 (Ev.step (fun k => by rw [spec_l14RecordOK.j0]) (Ev.neg Bool.false_ne_true h)))
      have hp := pb_len seq
      have imOK : ∀ q : List Int × Int, Ev (fun k => if kind = 1 then ((impl_DocBytes.f k did l).bind fun bt368 => (if bt368.2 = 0 then ((impl_oIdOk.f k did).bind fun t372 => (if t372 = true then (if id.toList = ([] : List UInt8) then (if ([kind % 256] ++ pb seq).length + bt368.1.length < 140737488355328 then (impl_RecordBytes.j1 k (([kind % 256] ++ pb seq) ++ bt368.1)) else (none)) else (some (([] : List Int), 1))) else (some (([] : List Int), 1)))) else (some (([] : List Int), 1)))) else (if kind = 2 then ((impl_oIdOk.f k id).bind fun t376 => (if t376 = true then ((impl_oZeroDoc.f did l).bind fun t377 => (if t377 = true then (if ([kind % 256] ++ pb seq).length + id.size < 140737488355328 then (impl_RecordBytes.j1 k (([kind % 256] ++ pb seq) ++ bytesOf id)) else (none)) else (some (([] : List Int), 1)))) else (some (([] : List Int), 1)))) else (some (([] : List Int), 1)))) q → Ev (fun k => impl_RecordBytes.f k kind seq id did l) q := fun q h => by
        refine Ev.congr (fun k => by rw [impl_RecordBytes.f, decide_eq_false s2]) (Ev.neg s1 (Ev.step (fun k => by rw [impl_RecordBytes.j0]) (Ev.neg Bool.false_ne_true ?_)))
        refine Ev.bind (putInt_ev seq (by omega) (by omega)) (Ev.bind (Ev.now _) (Ev.pos (by simp only [List.length_cons, List.length_nil]; omega) ?_))
        exact Ev.bind (Ev.now _) h
      have hf := fits_ev did l hn hv
      have hd := impl_DocBytes_ev did l hn hv
      have is1 := id_spec did hdi
      have ii1 := id_impl did hdi
      have is2 := id_spec id hi
      have ii2 := id_impl id hi
      have hpb := pb_bytes seq (by omega) (by omega)
      have hhead : ∀ x ∈ ([kind % 256] ++ pb seq), 0 ≤ x ∧ x ≤ 255 := fun x hx => by
        rcases List.mem_append.1 hx with hx | hx
        · simp only [List.mem_cons, List.not_mem_nil, or_false] at hx; omega
        · exact hpb x hx
      have no : Ev (fun k => spec_l14RecordOK.f k kind seq id did l) false → Ev (fun k => impl_RecordBytes.f k kind seq id did l) (([] : List Int), (1 : Int)) → ∃ ok : Bool, Ev (fun k => spec_l14RecordOK.f k kind seq id did l) ok ∧
          ((ok = false ∧ Ev (fun k => impl_RecordBytes.f k kind seq id did l) (([] : List Int), (1 : Int))) ∨
           (ok = true ∧ (kind = 1 ∨ kind = 2) ∧ ∃ part all : List Int, part.length ≤ 3000000000000 ∧ ((∃ t : List Int, t.length = 4 ∧ all = pb (part.length : Int) ++ part ++ t) ∧ ∀ x ∈ all, 0 ≤ x ∧ x ≤ 255) ∧ Ev (fun k => spec_l14Bytes.f k kind seq id did l) all ∧ Ev (fun k => impl_RecordBytes.f k kind seq id did l) (outR all))) := fun h1 h2 => ⟨false, h1, .inl ⟨rfl, h2⟩⟩
      have yes : ∀ part all, (kind = 1 ∨ kind = 2) → part.length ≤ 3000000000000 → ((∃ t : List Int, t.length = 4 ∧ all = pb (part.length : Int) ++ part ++ t) ∧ ∀ x ∈ all, 0 ≤ x ∧ x ≤ 255) → Ev (fun k => spec_l14RecordOK.f k kind seq id did l) true → Ev (fun k => spec_l14Bytes.f k kind seq id did l) all → Ev (fun k => impl_RecordBytes.j1 k part) (outR all) → Ev (fun k => impl_RecordBytes.f k kind seq id did l) (outR all) → ∃ ok : Bool, Ev (fun k => spec_l14RecordOK.f k kind seq id did l) ok ∧
          ((ok = false ∧ Ev (fun k => impl_RecordBytes.f k kind seq id did l) (([] : List Int), (1 : Int))) ∨
           (ok = true ∧ (kind = 1 ∨ kind = 2) ∧ ∃ part all : List Int, part.length ≤ 3000000000000 ∧ ((∃ t : List Int, t.length = 4 ∧ all = pb (part.length : Int) ++ part ++ t) ∧ ∀ x ∈ all, 0 ≤ x ∧ x ≤ 255) ∧ Ev (fun k => spec_l14Bytes.f k kind seq id did l) all ∧ Ev (fun k => impl_RecordBytes.f k kind seq id did l) (outR all))) := fun part all hk hl hs h1 h2 h3 h4 => ⟨true, h1, .inr ⟨rfl, hk, part, all, hl, hs, h2, h4⟩⟩
      have spB : ∀ part all, (kind = 1 → part = ([kind % 256] ++ pb seq) ++ dbytes did l ∧ fits did l = true) → (kind ≠ 1 → part = ([kind % 256] ++ pb seq) ++ bytesOf id) →
          Ev (fun k => (spec_l03Put.f k (part.length : Int)).bind fun t218 => (if t218.length + part.length < 140737488355328 then ((some (t218 ++ part : List Int)).bind fun y221 => ((spec_Sum32.f k part).bind fun t224 => ((spec_l04Four.f t224).bind fun t225 => (if y221.length + t225.length < 140737488355328 then (some (y221 ++ t225)) else (none))))) else (none))) all → Ev (fun k => spec_l14Bytes.f k kind seq id did l) all := fun part all k1 k2 h => by
        unfold spec_l14Bytes.f
        refine Ev.bind (Ev.now _) (Ev.bind (putS_ev seq (by omega) (by omega)) (Ev.pos (by simp only [List.length_cons, List.length_nil]; omega) (Ev.bind (Ev.now _) ?_)))
        by_cases c : kind = 1
        · obtain ⟨rfl, hfit⟩ := k1 c
          have hdl := dbytes_len did l hfit
          refine Ev.pos c (Ev.bind (bytes_ev did l hfit) (Ev.pos (by simp only [List.length_append, List.length_cons, List.length_nil]; omega) (Ev.bind (Ev.now _) h)))
        · obtain rfl := k2 c
          exact Ev.neg c (Ev.pos (by simp only [List.length_append, List.length_cons, List.length_nil]; omega) (Ev.bind (Ev.now _) h))
      by_cases c1 : kind = 1
      · by_cases f1 : fits did l = true
        · have e1 : docTell did l = (dbytes did l, 0) := by unfold docTell; rw [if_pos f1]
          rw [e1] at hd
          rw [f1] at hf
          have hdl := dbytes_len did l f1
          by_cases f2 : idOK did = true
          · rw [f2] at is1 ii1
            by_cases f3 : id.toList = ([] : List UInt8)
            · obtain ⟨all, g0, g1, g2⟩ := tail_both (([kind % 256] ++ pb seq) ++ dbytes did l) (fun x hx => by
                rcases List.mem_append.1 hx with hx | hx
                · exact hhead x hx
                · exact dbytes_bytes did l f1 x hx) (by simp only [List.length_append, List.length_cons, List.length_nil]; omega)
              refine yes _ all (.inl c1) (by simp only [List.length_append, List.length_cons, List.length_nil]; omega) g0 (spOK true (Ev.pos c1 (Ev.pos f3 (Ev.bind is1 (Ev.pos rfl (Ev.bind hf (Ev.now _))))))) (spB _ all (fun _ => ⟨rfl, f1⟩) (fun h => absurd c1 h) g1) g2 (imOK _ ?_)
              exact Ev.pos c1 (Ev.bind hd (Ev.pos rfl (Ev.bind ii1 (Ev.pos rfl (Ev.pos f3 (Ev.pos (by simp only [List.length_append, List.length_cons, List.length_nil]; omega) g2))))))
            · exact no (spOK false (Ev.pos c1 (Ev.neg f3 (Ev.now _)))) (imOK _ (Ev.pos c1 (Ev.bind hd (Ev.pos rfl (Ev.bind ii1 (Ev.pos rfl (Ev.neg f3 (Ev.now _))))))))
          · have f2' := Bool.eq_false_iff.2 f2
            rw [f2'] at is1 ii1
            refine no (spOK false (Ev.pos c1 ?_)) (imOK _ (Ev.pos c1 (Ev.bind hd (Ev.pos rfl (Ev.bind ii1 (Ev.neg Bool.false_ne_true (Ev.now _)))))))
            by_cases f3 : id.toList = ([] : List UInt8)
            · exact Ev.pos f3 (Ev.bind is1 (Ev.neg Bool.false_ne_true (Ev.now _)))
            · exact Ev.neg f3 (Ev.now _)
        · have f1' := Bool.eq_false_iff.2 f1
          have e1 : docTell did l = ([], 12) := by unfold docTell; rw [if_neg f1]
          rw [e1] at hd
          rw [f1'] at hf
          refine no (spOK false (Ev.pos c1 ?_)) (imOK _ (Ev.pos c1 (Ev.bind hd (Ev.neg (by decide) (Ev.now _)))))
          by_cases f3 : id.toList = ([] : List UInt8)
          · refine Ev.pos f3 (Ev.bind is1 ?_)
            by_cases f2 : idOK did = true
            · exact Ev.pos f2 (Ev.bind hf (Ev.now _))
            · exact Ev.neg f2 (Ev.now _)
          · exact Ev.neg f3 (Ev.now _)
      · by_cases c2 : kind = 2
        · by_cases f2 : idOK id = true
          · rw [f2] at is2 ii2
            by_cases f3 : eD did l = true
            · obtain ⟨all, g0, g1, g2⟩ := tail_both (([kind % 256] ++ pb seq) ++ bytesOf id) (fun x hx => by
                rcases List.mem_append.1 hx with hx | hx
                · exact hhead x hx
                · exact bytesOf_bytes id x hx) (by have := bytesOf_length id; simp only [List.length_append, List.length_cons, List.length_nil]; omega)
              refine yes _ all (.inr c2) (by have := bytesOf_length id; simp only [List.length_append, List.length_cons, List.length_nil]; omega) g0 (spOK true (Ev.neg c1 (Ev.pos c2 (Ev.bind is2 (Ev.pos rfl (Ev.bind (Ev.ofEq (eD_spec did l)) (by rw [f3]; exact Ev.now _))))))) (spB _ all (fun h => absurd h c1) (fun _ => rfl) g1) g2 (imOK _ ?_)
              exact Ev.neg c1 (Ev.pos c2 (Ev.bind ii2 (Ev.pos rfl (Ev.bind (Ev.ofEq (eD_impl did l)) (Ev.pos f3 (Ev.pos (by simp only [List.length_append, List.length_cons, List.length_nil]; omega) g2))))))
            · have f3' := Bool.eq_false_iff.2 f3
              exact no (spOK false (Ev.neg c1 (Ev.pos c2 (Ev.bind is2 (Ev.pos rfl (Ev.bind (Ev.ofEq (eD_spec did l)) (by rw [f3']; exact Ev.now _))))))) (imOK _ (Ev.neg c1 (Ev.pos c2 (Ev.bind ii2 (Ev.pos rfl (Ev.bind (Ev.ofEq (eD_impl did l)) (Ev.neg f3 (Ev.now _))))))))
          · have f2' := Bool.eq_false_iff.2 f2
            rw [f2'] at is2 ii2
            exact no (spOK false (Ev.neg c1 (Ev.pos c2 (Ev.bind is2 (Ev.neg Bool.false_ne_true (Ev.now _)))))) (imOK _ (Ev.neg c1 (Ev.pos c2 (Ev.bind ii2 (Ev.neg Bool.false_ne_true (Ev.now _))))))
        · exact no (spOK false (Ev.neg c1 (Ev.neg c2 (Ev.now _)))) (imOK _ (Ev.neg c1 (Ev.neg c2 (Ev.now _))))

/-! ### Reading a log -/
def sh (n : Nat) (r : Int × Int × Int) : Int × Int × Int := if r.2.2 = 0 then (r.1, r.2.1 + (n : Int), r.2.2) else r
theorem rd_drop' (b : List Int) (n i : Nat) : rd b ((n + i : Nat) : Int) = rd (b.drop n) (i : Int) := by
  unfold rd
  rw [Int.toNat_natCast, Int.toNat_natCast, List.getD_eq_getElem?_getD, List.getD_eq_getElem?_getD, List.getElem?_drop]
theorem gi_shift (b : List Int) (n : Nat) (hn : n ≤ b.length) (hl : b.length ≤ 1048576) : ∀ k : Nat,
    (∀ (v : Int) (i : Nat), i ≤ 9 → impl_GetInt.l0 k b (n : Int) v (i : Int) = (impl_GetInt.l0 k (b.drop n) 0 v (i : Int)).map (sh n)) ∧
    (∀ (v : Int) (i : Nat) (t : Bool), i ≤ 9 → (t = true → i ≤ 8 ∧ n + i < b.length) → impl_GetInt.j1 k b (n : Int) v (i : Int) t = (impl_GetInt.j1 k (b.drop n) 0 v (i : Int) t).map (sh n)) := by
  intro k
  induction k with
  | zero => exact ⟨fun _ _ _ => rfl, fun _ _ _ _ _ => rfl⟩
  | succ k ih =>
    obtain ⟨ih0, ih1⟩ := ih
    have hd : ((b.drop n).length : Int) = (b.length : Int) - (n : Int) := by rw [List.length_drop]; omega
    have wa : ∀ i : Nat, i ≤ 9 → wrap64 ((n : Int) + (i : Int)) = ((n + i : Nat) : Int) := fun i hi => by rw [w64 (by omega) (by omega)]; omega
    have wb : ∀ i : Nat, i ≤ 9 → wrap64 (0 + (i : Int)) = (i : Int) := fun i hi => by rw [w64 (by omega) (by omega)]; omega
    have wc : ∀ i : Nat, i ≤ 9 → wrap64 ((i : Int) + 1) = ((i + 1 : Nat) : Int) := fun i hi => by rw [w64 (by omega) (by omega)]; omega
    have wd : ∀ i : Nat, i ≤ 9 → wrap64 (((n + i : Nat) : Int) + 1) = ((i + 1 : Nat) : Int) + (n : Int) := fun i hi => by rw [w64 (by omega) (by omega)]; omega
    refine ⟨fun v i hi => ?_, fun v i t hi ht => ?_⟩
    · rw [impl_GetInt.l0, impl_GetInt.l0, wa i hi, wb i hi, hd]
      by_cases c : (i : Int) < 9
      · rw [if_pos c, if_pos c]
        by_cases c2 : n + i < b.length
        · rw [decide_eq_true (by omega), decide_eq_true (by omega)]
          exact ih1 v i true hi (fun _ => ⟨by omega, c2⟩)
        · rw [decide_eq_false (by omega), decide_eq_false (by omega)]
          exact ih1 v i false hi (fun h => by cases h)
      · rw [if_neg c, if_neg c]
        exact ih1 v i false hi (fun h => by cases h)
    · rw [impl_GetInt.j1, impl_GetInt.j1, wa i hi, wb i hi, hd]
      cases t with
      | false => rw [if_neg Bool.false_ne_true, if_neg Bool.false_ne_true]; rfl
      | true =>
        obtain ⟨h8, hlt⟩ := ht rfl
        rw [if_pos rfl, if_pos rfl, if_pos (show (0 : Int) ≤ ((n + i : Nat) : Int) by omega), if_pos (show ((n + i : Nat) : Int) < (b.length : Int) by omega), if_pos (show (0 : Int) ≤ (i : Int) by omega), if_pos (show (i : Int) < (b.length : Int) - (n : Int) by omega), rd_drop' b n i, wd i hi, wc i hi]
        by_cases c0 : 0 ≤ wrap64 (7 * (i : Int))
        · rw [if_pos c0, if_pos c0]
          by_cases c1 : rd (b.drop n) (i : Int) < 128
          · rw [if_pos c1, if_pos c1]
            by_cases c2 : (Go.bits .or .i64 v (shl .i64 (wrap64 (Go.bits .and .u8 (rd (b.drop n) (i : Int)) 127)) (wrap64 (7 * (i : Int))))) > 4611686018427387903
            · rw [if_pos c2, if_pos c2]; rfl
            · rw [if_neg c2, if_neg c2]
              by_cases c3 : (Go.bits .or .i64 v (shl .i64 (wrap64 (Go.bits .and .u8 (rd (b.drop n) (i : Int)) 127)) (wrap64 (7 * (i : Int))))) < 0
              · rw [if_pos c3, if_pos c3]; rfl
              · rw [if_neg c3, if_neg c3]
                by_cases c4 : rd (b.drop n) (i : Int) = 0
                · rw [if_pos c4, if_pos c4]
                  by_cases c5 : (i : Int) > 0
                  · rw [if_pos c5, if_pos c5]; rfl
                  · rw [if_neg c5, if_neg c5]; rfl
                · rw [if_neg c4, if_neg c4]; rfl
          · rw [if_neg c1, if_neg c1]
            exact ih0 _ (i + 1) (by omega)
        · rw [if_neg c0, if_neg c0]; rfl
theorem gi_f (b : List Int) (n : Nat) (hn : n ≤ b.length) (hl : b.length ≤ 1048576) (k : Nat) : impl_GetInt.f k b (n : Int) = impl_GetInt.l0 k b (n : Int) 0 0 := by
  unfold impl_GetInt.f impl_within.f
  rw [if_neg (by omega), if_pos (by omega), decide_eq_true (by omega)]
  rfl
theorem gi_none (b : List Int) (n : Nat) (hn : n ≤ b.length) (hl : b.length ≤ 1048576) (h : Ev (fun k => impl_GetInt.f k b (n : Int)) (0, 0, 3)) : Ev (fun k => impl_GetInt.f k (b.drop n) 0) (0, 0, 3) := by
  obtain ⟨K, h⟩ := h
  refine ⟨K, fun k hk => ?_⟩
  have h2 := h k hk
  simp only at h2 ⊢
  rw [gi_f b n hn hl, show (0 : Int) = ((0 : Nat) : Int) from rfl, ((gi_shift b n hn hl k).1 _ 0 (by omega))] at h2
  have e := gi_f (b.drop n) 0 (by omega) (by rw [List.length_drop]; omega) k
  obtain ⟨⟨x, y, z⟩, hx, hs⟩ := Option.map_eq_some_iff.1 h2
  rw [show impl_GetInt.f k (b.drop n) 0 = impl_GetInt.l0 k (b.drop n) 0 0 0 from e]
  refine hx.trans ?_
  unfold sh at hs
  by_cases c : z = 0
  · rw [if_pos c] at hs; simp only [Prod.mk.injEq] at hs; omega
  · rw [if_neg c] at hs; rw [hs]; rfl
theorem gi_some (b : List Int) (n m : Nat) (v : Int) (hn : n ≤ b.length) (hnm : n ≤ m) (hl : b.length ≤ 1048576) (h : Ev (fun k => impl_GetInt.f k b (n : Int)) (v, (m : Int), 0)) : Ev (fun k => impl_GetInt.f k (b.drop n) 0) (v, ((m - n : Nat) : Int), 0) := by
  obtain ⟨K, h⟩ := h
  refine ⟨K, fun k hk => ?_⟩
  have h2 := h k hk
  simp only at h2 ⊢
  rw [gi_f b n hn hl, show impl_GetInt.l0 k b (n : Int) 0 0 = _ from ((gi_shift b n hn hl k).1 0 0 (by omega))] at h2
  have e := gi_f (b.drop n) 0 (by omega) (by rw [List.length_drop]; omega) k
  obtain ⟨⟨x, y, z⟩, hx, hs⟩ := Option.map_eq_some_iff.1 h2
  rw [show impl_GetInt.f k (b.drop n) 0 = impl_GetInt.l0 k (b.drop n) 0 0 0 from e]
  refine hx.trans ?_
  unfold sh at hs
  by_cases c : z = 0
  · rw [if_pos c] at hs
    simp only [Prod.mk.injEq] at hs
    obtain ⟨rfl, h3, rfl⟩ := hs
    rw [show y = ((m - n : Nat) : Int) by omega]
  · rw [if_neg c] at hs
    simp only [Prod.mk.injEq] at hs
    exact absurd hs.2.2 c
theorem drop_part (b : List Int) (n m v : Nat) (h : n ≤ m) : ((b.drop n).take (m - n + v)).drop (m - n) = (b.take (m + v)).drop m := by
  apply List.ext_getElem?
  intro i
  rw [List.getElem?_drop, List.getElem?_drop, List.getElem?_take, List.getElem?_take, List.getElem?_drop]
  by_cases c : i < v
  · rw [if_pos (by omega), if_pos (by omega)]
    congr 1
    omega
  · rw [if_neg (by omega), if_neg (by omega)]
theorem drop_all (b : List Int) (n e : Nat) (h : n ≤ e) : (b.take e).drop n = (b.drop n).take (e - n) := by
  apply List.ext_getElem?
  intro i
  rw [List.getElem?_drop, List.getElem?_take, List.getElem?_take, List.getElem?_drop]
  by_cases c : n + i < e
  · rw [if_pos c, if_pos (by omega)]
  · rw [if_neg c, if_neg (by omega)]
theorem str_len {x y : List Int} (h : (strOfNums x).toList = (strOfNums y).toList) : x.length = y.length := by
  rw [Lib.strOfNums_toList, Lib.strOfNums_toList] at h
  have := congrArg List.length h
  unfold Lib.bytesOf at this
  simpa using this
section
variable {b : List Int} (hl : b.length ≤ 1048576) (hb : ∀ x ∈ b, 0 ≤ x ∧ x ≤ 255)
include hl hb
/-- A record that was read: what both make of its own bytes. -/
theorem fin (n m V : Nat) (hn : n ≤ m) (hV : 2 ≤ V) (hm : m + V + 4 ≤ b.length) (hg : Ev (fun k => impl_GetInt.f k (b.drop n) 0) ((V : Int), ((m - n : Nat) : Int), 0)) (K q : Int) (id did : ByteArray) (l : List S66) (hi : id.size ≤ 1048576) (hdi : did.size ≤ 1048576) (hln : l.length ≤ 1048576) (hv : ∀ v ∈ l, okV v) :
    ((∃ r1, r1.2.2.2.2.2.2 = false ∧ Ev (fun k => spec_l14Next.j2 k b (n : Int) (V : Int) (m : Int) K q id did l) r1) ∧ ∃ r2, r2.2.2.2.2.2 = 0 ∧ Ev (fun k => impl_oRecord.j1 k (b.drop n) K q id did l) r2) ∨
    (Ev (fun k => spec_l14Next.j2 k b (n : Int) (V : Int) (m : Int) K q id did l) (K, q, id, did, l, ((m + V + 4 : Nat) : Int), true) ∧ Ev (fun k => impl_oRecord.j1 k (b.drop n) K q id did l) (K, q, id, did, l, ((m + V + 4 - n : Nat) : Int))) := by
  obtain ⟨ok, hok, h⟩ := rec_tell K q id did l hi hdi hln hv
  have w1 : wrap64 ((m : Int) + (V : Int)) = ((m + V : Nat) : Int) := by rw [w64 (by omega) (by omega)]; omega
  have w2 : wrap64 (((m + V : Nat) : Int) + 4) = ((m + V + 4 : Nat) : Int) := by rw [w64 (by omega) (by omega)]; omega
  have hsl : (b.drop n).length = b.length - n := List.length_drop
  rcases h with ⟨rfl, hbad⟩ | ⟨rfl, hk, part, all, hpl, ⟨⟨t, ht, hall⟩, hab⟩, hs, hr⟩
  · refine .inl ⟨⟨(K, q, id, did, l, 0, false), rfl, Ev.step (fun k => by rw [spec_l14Next.j2]) (Ev.bind hok (Ev.neg Bool.false_ne_true (Ev.now _)))⟩, ⟨(0, 0, (⟨#[]⟩ : ByteArray), (⟨#[]⟩ : ByteArray), ([] : List S66), 0), rfl, Ev.step (fun k => by rw [impl_oRecord.j1]) (Ev.bind hbad (Ev.neg (show ¬ (1 : Int) = 0 by decide) (Ev.now _)))⟩⟩
  · have hcut : (b.take (((m + V + 4 : Nat) : Int)).toNat).drop ((n : Int)).toNat = (b.drop n).take (m + V + 4 - n) := by rw [Int.toNat_natCast, Int.toNat_natCast, drop_all b n _ (by omega)]
    have spec : ∀ r, Ev (fun _ => if (strOfNums all).toList = (strOfNums ((b.drop n).take (m + V + 4 - n))).toList then (some (K, q, id, did, l, ((m + V + 4 : Nat) : Int), true)) else (some (K, q, id, did, l, 0, false))) r → Ev (fun k => spec_l14Next.j2 k b (n : Int) (V : Int) (m : Int) K q id did l) r := fun r h => by
      refine Ev.step (fun k => by rw [spec_l14Next.j2, w1, w2, hcut]) (Ev.bind hok (Ev.pos rfl (Ev.bind hs ?_)))
      refine Ev.pos (by omega) ?_
      refine Ev.pos (by omega) ?_
      refine Ev.pos (by omega) ?_
      exact h
    have hcl : ((b.drop n).take (m + V + 4 - n)).length = m + V + 4 - n := by rw [List.length_take, hsl]; omega
    have sno : ¬ (strOfNums all).toList = (strOfNums ((b.drop n).take (m + V + 4 - n))).toList → ∃ r1 : Int × Int × ByteArray × ByteArray × List S66 × Int × Bool, r1.2.2.2.2.2.2 = false ∧ Ev (fun k => spec_l14Next.j2 k b (n : Int) (V : Int) (m : Int) K q id did l) r1 := fun h => ⟨_, rfl, spec (K, q, id, did, l, 0, false) (Ev.neg h (Ev.now _))⟩
    have ino : ∀ q2 : List Int × Int, ¬ q2.2 = 0 → Ev (fun k => impl_RecordBytes.f k K q id did l) q2 → ∃ r2 : Int × Int × ByteArray × ByteArray × List S66 × Int, r2.2.2.2.2.2 = 0 ∧ Ev (fun k => impl_oRecord.j1 k (b.drop n) K q id did l) r2 := fun q2 hq h => ⟨(0, 0, (⟨#[]⟩ : ByteArray), (⟨#[]⟩ : ByteArray), ([] : List S66), 0), rfl, Ev.step (fun k => by rw [impl_oRecord.j1]) (Ev.bind h (Ev.neg hq (Ev.now _)))⟩
    by_cases c1 : (all.length : Int) > 1048576
    · have e : outR all = ([], 2) := if_pos c1
      rw [e] at hr
      exact .inl ⟨sno (fun h => by have := str_len h; omega), ino _ (by decide) hr⟩
    · have e : outR all = (all, 0) := if_neg c1
      rw [e] at hr
      by_cases c2 : (all.length : Int) > ((b.drop n).length : Int)
      · exact .inl ⟨sno (fun h => by have := str_len h; omega), ⟨(0, 0, (⟨#[]⟩ : ByteArray), (⟨#[]⟩ : ByteArray), ([] : List S66), 0), rfl, Ev.step (fun k => by rw [impl_oRecord.j1]) (Ev.bind hr (Ev.pos rfl (Ev.pos c2 (Ev.now _))))⟩⟩
      · have impl : ∀ r, Ev (fun _ => if ((strOfNums all).toList == (strOfNums ((b.drop n).take all.length)).toList) = true then (some (K, q, id, did, l, (all.length : Int))) else (some (0, 0, (⟨#[]⟩ : ByteArray), (⟨#[]⟩ : ByteArray), ([] : List S66), 0))) r → Ev (fun k => impl_oRecord.j1 k (b.drop n) K q id did l) r := fun r h => by
          refine Ev.step (fun k => by rw [impl_oRecord.j1]) (Ev.bind hr (Ev.pos rfl (Ev.neg c2 ?_)))
          refine Ev.pos (by dsimp only; omega) ?_
          refine Ev.pos (by dsimp only; omega) ?_
          dsimp only
          unfold bytes_Equal.f
          rw [Int.toNat_natCast]
          exact Ev.bind (Ev.now _) h
        have hsb : ∀ x ∈ (b.drop n).take all.length, 0 ≤ x ∧ x ≤ 255 := fun x hx => hb x (List.mem_of_mem_drop (List.mem_of_mem_take hx))
        by_cases c3 : (strOfNums all).toList = (strOfNums ((b.drop n).take all.length)).toList
        · have hpre := str_inj _ _ hab hsb c3
          obtain ⟨rest, hrest⟩ : ∃ rest, rest = (b.drop n).drop all.length := ⟨_, rfl⟩
          have hd1 : b.drop n = all ++ rest := by
            rw [hrest]
            conv => lhs; rw [← List.take_append_drop all.length (b.drop n), ← hpre]
          have hd0 : (b.drop n).drop 0 = vb 8 (part.length : Int) ++ (part ++ t ++ rest) := by
            rw [List.drop_zero, hd1, hall]
            unfold pb
            simp only [List.append_assoc]
          have hgv := get_vb (b.drop n) 0 (by omega) (Nat.zero_le _) (part.length : Int) _ hd0 ⟨by omega, by omega⟩
          have hu := Ev_uniq hg hgv
          simp only [Prod.mk.injEq] at hu
          have hal : all.length = m + V + 4 - n := by
            have : all.length = (pb (part.length : Int)).length + part.length + 4 := by rw [hall, List.length_append, List.length_append, ht]
            have e2 : (pb (part.length : Int)).length = (vb 8 (part.length : Int)).length := rfl
            omega
          rw [hal] at c3 impl
          exact .inr ⟨spec _ (Ev.pos c3 (Ev.now _)), impl _ (Ev.pos (beq_iff_eq.2 c3) (Ev.now _))⟩
        · refine .inl ⟨sno (fun h => ?_), ⟨_, rfl, impl (0, 0, (⟨#[]⟩ : ByteArray), (⟨#[]⟩ : ByteArray), ([] : List S66), 0) (Ev.neg (fun h => c3 (beq_iff_eq.1 h)) (Ev.now _))⟩⟩
          have hal := str_len h
          rw [hcl] at hal
          rw [← hal] at h
          exact c3 h
end

def okR (x : S47) : Prop := x.f3.f1.length ≤ 4096 ∧ ∀ v ∈ x.f3.f1, okW v
def Nx (b : List Int) (n : Nat) (seq : Int) (o : Option (S47 × Nat)) : Prop := match o with
  | none => (∃ r1, r1.2.2.2.2.2.2 = false ∧ Ev (fun k => spec_l14Next.f k b (n : Int) seq) r1) ∧ ∃ r2, (r2.2.2.2.2.2 = 0 ∨ r2.2.1 ≠ seq) ∧ Ev (fun k => impl_oRecord.f k (b.drop n)) r2
  | some (x, e) => okR x ∧ n < e ∧ e ≤ b.length ∧ x.f1 = seq ∧ Ev (fun k => spec_l14Next.f k b (n : Int) seq) (x.f0, x.f1, x.f2, x.f3.f0, x.f3.f1, (e : Int), true) ∧ Ev (fun k => impl_oRecord.f k (b.drop n)) (x.f0, x.f1, x.f2, x.f3.f0, x.f3.f1, ((e - n : Nat) : Int))
section
variable {b : List Int} (hl : b.length ≤ 1048576) (hb : ∀ x ∈ b, 0 ≤ x ∧ x ≤ 255)
include hl hb
theorem next_both (n : Nat) (hn : n ≤ b.length) (seq : Int) : ∃ o, Nx b n seq o := by
  obtain ⟨num, hnum⟩ := told_ex b hl hb
  have hT := hnum n hn
  have hsl : (b.drop n).length = b.length - n := List.length_drop
  have sj0 : ∀ v m : Int, Ev (fun k => spec_l14Next.j0 k b (n : Int) seq v m true 0 0 (⟨#[]⟩ : ByteArray) (⟨#[]⟩ : ByteArray)) (0, 0, (⟨#[]⟩ : ByteArray), (⟨#[]⟩ : ByteArray), ([] : List S66), 0, false) := fun v m => Ev.step (fun k => by rw [spec_l14Next.j0]) (Ev.pos rfl (Ev.now _))
  have ij0 : ∀ v m : Int, Ev (fun k => impl_oRecord.j0 k (b.drop n) v m true) (0, 0, (⟨#[]⟩ : ByteArray), (⟨#[]⟩ : ByteArray), ([] : List S66), 0) := fun v m => Ev.step (fun k => by rw [impl_oRecord.j0]) (Ev.pos rfl (Ev.now _))
  cases hq : num n with
  | none =>
    rw [hq] at hT
    obtain ⟨⟨x, y, hs⟩, hi⟩ := hT
    have hi' := gi_none b n hn hl hi
    refine ⟨none, ⟨(0, 0, (⟨#[]⟩ : ByteArray), (⟨#[]⟩ : ByteArray), ([] : List S66), 0, false), rfl, ?_⟩, (0, 0, (⟨#[]⟩ : ByteArray), (⟨#[]⟩ : ByteArray), ([] : List S66), 0), .inl rfl, ?_⟩
    · unfold spec_l14Next.f
      exact Ev.bind hs (Ev.neg Bool.false_ne_true (sj0 _ _))
    · unfold impl_oRecord.f
      exact Ev.bind hi' (Ev.neg (show ¬ (3 : Int) = 0 by decide) (ij0 _ _))
  | some p =>
    obtain ⟨v, m⟩ := p
    rw [hq] at hT
    obtain ⟨h0, h1, hnm, hm, hs, hi⟩ := hT
    have hnm' : n ≤ m := Nat.le_of_lt hnm
    have hi' := gi_some b n m v hn hnm' hl hi
    have w1 : Aside0 (wrap64 (wrap64 ((b.length : Int) - (m : Int)) - 4) = (b.length : Int) - (m : Int) - 4) := ⟨by rw [w64 (show -9223372036854775808 ≤ (b.length : Int) - (m : Int) by omega) (by omega), w64 (by omega) (by omega)]⟩
    have w2 : Aside0 (wrap64 (wrap64 (((b.drop n).length : Int) - ((m - n : Nat) : Int)) - 4) = (b.length : Int) - (m : Int) - 4) := ⟨by rw [w64 (show -9223372036854775808 ≤ ((b.drop n).length : Int) - ((m - n : Nat) : Int) by omega) (by omega), w64 (by omega) (by omega)]; omega⟩
    by_cases c1 : v < 2
    · refine ⟨none, ⟨(0, 0, (⟨#[]⟩ : ByteArray), (⟨#[]⟩ : ByteArray), ([] : List S66), 0, false), rfl, ?_⟩, (0, 0, (⟨#[]⟩ : ByteArray), (⟨#[]⟩ : ByteArray), ([] : List S66), 0), .inl rfl, ?_⟩
      · unfold spec_l14Next.f
        exact Ev.bind hs (Ev.pos rfl (Ev.pos c1 (sj0 _ _)))
      · unfold impl_oRecord.f
        exact Ev.bind hi' (Ev.pos rfl (Ev.pos c1 (ij0 _ _)))
    · by_cases c2 : v > (b.length : Int) - (m : Int) - 4
      · refine ⟨none, ⟨(0, 0, (⟨#[]⟩ : ByteArray), (⟨#[]⟩ : ByteArray), ([] : List S66), 0, false), rfl, ?_⟩, (0, 0, (⟨#[]⟩ : ByteArray), (⟨#[]⟩ : ByteArray), ([] : List S66), 0), .inl rfl, ?_⟩
        · unfold spec_l14Next.f
          refine Ev.bind hs (Ev.pos rfl (Ev.neg c1 ?_))
          simp only [w1.out, decide_eq_true c2]
          exact sj0 _ _
        · unfold impl_oRecord.f
          refine Ev.bind hi' (Ev.pos rfl (Ev.neg c1 ?_))
          simp only [w2.out, decide_eq_true c2]
          exact ij0 _ _
      · obtain ⟨V, rfl⟩ := Int.eq_ofNat_of_zero_le h0
        have hV : 2 ≤ V := by omega
        have hmV : m + V + 4 ≤ b.length := by omega
        obtain ⟨part, hpart⟩ : ∃ part, part = (b.take (m + V)).drop m := ⟨_, rfl⟩
        have hpl : part.length = V := by rw [hpart, List.length_drop, List.length_take]; omega
        have hpb : ∀ x ∈ part, 0 ≤ x ∧ x ≤ 255 := fun x hx => hb x (by rw [hpart] at hx; exact List.mem_of_mem_take (List.mem_of_mem_drop hx))
        have e1 : Aside0 (wrap64 ((m : Int) + (V : Int)) = ((m + V : Nat) : Int)) := ⟨by rw [w64 (by omega) (by omega)]; omega⟩
        have e2 : Aside0 (wrap64 (((m - n : Nat) : Int) + (V : Int)) = ((m - n + V : Nat) : Int)) := ⟨by rw [w64 (by omega) (by omega)]; omega⟩
        have hcs : (b.take (((m + V : Nat) : Int)).toNat).drop ((m : Int)).toNat = part := by rw [Int.toNat_natCast, Int.toNat_natCast, hpart]
        have hci : ((b.drop n).take (((m - n + V : Nat) : Int)).toNat).drop (((m - n : Nat) : Int)).toNat = part := by rw [Int.toNat_natCast, Int.toNat_natCast, hpart]; exact drop_part b n m V hnm'
        have hp0 : 0 < part.length := by rw [hpl]; exact Nat.lt_of_lt_of_le (by decide) hV
        have hrd : rd part ((0 : Nat) : Int) = part[0] := rd_lt part 0 hp0
        rw [n0] at hrd
        have hK : 0 ≤ rd part 0 ∧ rd part 0 ≤ 255 := by
          rw [hrd]
          exact hpb _ (List.getElem_mem hp0)
        obtain ⟨K, hKe⟩ : ∃ K, K = rd part 0 := ⟨_, rfl⟩
        have wK : Aside0 (wrap64 (rd part 0) = K) := ⟨by rw [w64 (by omega) (by omega), hKe]⟩
        obtain ⟨num2, hnum2⟩ := told_ex part (by omega) hpb
        have hT2 := hnum2 1 (by omega)
        have sp : ∀ r, Ev (fun k => (spec_l03Get.f k part 1).bind fun bt483 => (if bt483.2.2 = true then (spec_l14Next.j1 k b (n : Int) (V : Int) (m : Int) part bt483.1 bt483.2.1 (bt483.1 != seq) K 0 (⟨#[]⟩ : ByteArray) (⟨#[]⟩ : ByteArray)) else (spec_l14Next.j1 k b (n : Int) (V : Int) (m : Int) part bt483.1 bt483.2.1 true K 0 (⟨#[]⟩ : ByteArray) (⟨#[]⟩ : ByteArray)))) r → Ev (fun k => spec_l14Next.f k b (n : Int) seq) r := fun r h => by
          unfold spec_l14Next.f
          refine Ev.bind hs (Ev.pos rfl (Ev.neg c1 ?_))
          simp only [w1.out, decide_eq_false c2]
          refine Ev.step (fun k => by rw [spec_l14Next.j0, e1.out, hcs, wK.out]) ?_
          refine Ev.neg Bool.false_ne_true ?_
          refine Ev.pos (by omega) ?_
          refine Ev.pos (by omega) ?_
          refine Ev.pos (by omega) ?_
          exact Ev.pos (by omega) h
        have ip : ∀ r, Ev (fun k => (impl_GetInt.f k part 1).bind fun bt259 => (if bt259.2.2 = 0 then (if K = 1 then (if 0 ≤ bt259.2.1 then (if bt259.2.1 ≤ (part.length : Int) then ((impl_ReadDoc.f k (part.drop (bt259.2.1 : Int).toNat)).bind fun bt263 => (if bt263.2.2 = 0 then (impl_oRecord.j1 k (b.drop n) K bt259.1 (⟨#[]⟩ : ByteArray) bt263.1 bt263.2.1) else (some (0, 0, (⟨#[]⟩ : ByteArray), (⟨#[]⟩ : ByteArray), ([] : List (S66)), 0)))) else (none)) else (none)) else (if K = 2 then (if 0 ≤ bt259.2.1 then (if bt259.2.1 ≤ (part.length : Int) then (impl_oRecord.j1 k (b.drop n) K bt259.1 (strOfNums (part.drop (bt259.2.1 : Int).toNat)) (⟨#[]⟩ : ByteArray) ([] : List (S66))) else (none)) else (none)) else (impl_oRecord.j1 k (b.drop n) K bt259.1 (⟨#[]⟩ : ByteArray) (⟨#[]⟩ : ByteArray) ([] : List (S66))))) else (some (0, 0, (⟨#[]⟩ : ByteArray), (⟨#[]⟩ : ByteArray), ([] : List (S66)), 0)))) r → Ev (fun k => impl_oRecord.f k (b.drop n)) r := fun r h => by
          unfold impl_oRecord.f
          refine Ev.bind hi' (Ev.pos rfl (Ev.neg c1 ?_))
          simp only [w2.out, decide_eq_false c2]
          refine Ev.step (fun k => by rw [impl_oRecord.j0, e2.out, hci, wK.out]) ?_
          refine Ev.neg Bool.false_ne_true ?_
          refine Ev.pos (by omega) ?_
          refine Ev.pos (by omega) ?_
          refine Ev.pos (by omega) ?_
          exact Ev.pos (by omega) h
        have sj1 : ∀ q p : Int, Ev (fun k => spec_l14Next.j1 k b (n : Int) (V : Int) (m : Int) part q p true K 0 (⟨#[]⟩ : ByteArray) (⟨#[]⟩ : ByteArray)) (K, 0, (⟨#[]⟩ : ByteArray), (⟨#[]⟩ : ByteArray), ([] : List S66), 0, false) := fun q p => Ev.step (fun k => by rw [spec_l14Next.j1]) (Ev.pos rfl (Ev.now _))
        cases hq2 : num2 1 with
        | none =>
          rw [hq2] at hT2
          obtain ⟨⟨x, y, hs2⟩, hi2⟩ := hT2
          exact ⟨none, ⟨_, rfl, sp _ (Ev.bind hs2 (Ev.neg Bool.false_ne_true (sj1 _ _)))⟩, _, .inl rfl, ip (0, 0, (⟨#[]⟩ : ByteArray), (⟨#[]⟩ : ByteArray), ([] : List S66), 0) (Ev.bind hi2 (Ev.neg (show ¬ (3 : Int) = 0 by decide) (Ev.now _)))⟩
        | some p2 =>
          obtain ⟨q, p⟩ := p2
          rw [hq2] at hT2
          obtain ⟨g0, g1, g2, g3, hs2, hi2⟩ := hT2
          have hdp : part.drop ((p : Int)).toNat = part.drop p := by rw [Int.toNat_natCast]
          have hrl : (part.drop p).length ≤ 1048576 := by rw [List.length_drop]; omega
          have hrb : ∀ x ∈ part.drop p, 0 ≤ x ∧ x ≤ 255 := fun x hx => hpb x (List.mem_of_mem_drop hx)
          have hts : (strOfNums (part.drop p)).size ≤ 1048576 := by rw [strOfNums_size]; exact hrl
          have h0s : (⟨#[]⟩ : ByteArray).size ≤ 1048576 := by decide
          -- what both make of a record, whatever its number
          have key : ∀ (S : Option (Int × Int × ByteArray × ByteArray × List S66 × Int × Bool)), True := fun _ => trivial
          have out : (∀ r, q = seq → Ev (fun k => if K = 1 then ((spec_ReadDoc.f k (part.drop p)).bind fun bt487 => (if bt487.2.2 = 0 then (spec_l14Next.j2 k b (n : Int) (V : Int) (m : Int) K q (⟨#[]⟩ : ByteArray) bt487.1 bt487.2.1) else (some (K, q, (⟨#[]⟩ : ByteArray), (⟨#[]⟩ : ByteArray), ([] : List (S66)), 0, false)))) else (spec_l14Next.j2 k b (n : Int) (V : Int) (m : Int) K q (strOfNums (part.drop p)) (⟨#[]⟩ : ByteArray) ([] : List (S66)))) r → Ev (fun k => spec_l14Next.f k b (n : Int) seq) r) := fun r hqs h => by
            refine sp r (Ev.bind hs2 (Ev.pos rfl ?_))
            subst hqs
            simp only [bne_self_eq_false]
            refine Ev.step (fun k => by rw [spec_l14Next.j1, hdp]) ?_
            refine Ev.neg Bool.false_ne_true ?_
            refine Ev.pos (by omega) ?_
            exact Ev.pos (by omega) h
          have son : q ≠ seq → ∃ r1 : Int × Int × ByteArray × ByteArray × List S66 × Int × Bool, r1.2.2.2.2.2.2 = false ∧ Ev (fun k => spec_l14Next.f k b (n : Int) seq) r1 := fun hne => ⟨_, rfl, sp (K, 0, (⟨#[]⟩ : ByteArray), (⟨#[]⟩ : ByteArray), ([] : List S66), 0, false) (Ev.bind hs2 (Ev.pos rfl (by
            simp only [show (q != seq) = true from bne_iff_ne.2 hne]
            exact sj1 _ _)))⟩
          -- a record that both came to
          have recd : ∀ (id did : ByteArray) (l : List S66), id.size ≤ 1048576 → did.size ≤ 1048576 → l.length ≤ 4096 → (∀ v ∈ l, okW v) →
              (∀ r, Ev (fun k => spec_l14Next.j2 k b (n : Int) (V : Int) (m : Int) K q id did l) r → q = seq → Ev (fun k => spec_l14Next.f k b (n : Int) seq) r) → (∀ r, Ev (fun k => impl_oRecord.j1 k (b.drop n) K q id did l) r → Ev (fun k => impl_oRecord.f k (b.drop n)) r) → ∃ o, Nx b n seq o := by
            intro id did l a1 a2 a3 a4 hsp him
            rcases fin hl hb n m V (by omega) hV hmV hi' K q id did l a1 a2 (by omega) (fun v hv => okW_V (a4 v hv)) with ⟨⟨r1, z1, s1⟩, r2, z2, s2⟩ | ⟨s1, s2⟩
            · by_cases hqs : q = seq
              · exact ⟨none, ⟨r1, z1, hsp _ s1 hqs⟩, r2, .inl z2, him _ s2⟩
              · exact ⟨none, son hqs, r2, .inl z2, him _ s2⟩
            · by_cases hqs : q = seq
              · exact ⟨some (⟨K, q, id, ⟨did, l⟩⟩, m + V + 4), ⟨a3, a4⟩, by omega, hmV, hqs, hsp _ s1 hqs, him _ s2⟩
              · exact ⟨none, son hqs, _, .inr hqs, him _ s2⟩
          by_cases k1 : K = 1
          · obtain ⟨id, vs, e, b1, b2, b3, rs, ri⟩ := read_both (part.drop p) hrl hrb
            by_cases ce : e = 0
            · subst ce
              refine recd (⟨#[]⟩ : ByteArray) id vs h0s b2 b1 b3 (fun r h hqs => out r hqs (Ev.pos k1 (Ev.bind rs (Ev.pos rfl h)))) (fun r h => ip r (Ev.bind hi2 (Ev.pos rfl (Ev.pos k1 ?_))))
              refine Ev.pos (by dsimp only; omega) ?_
              refine Ev.pos (by dsimp only; omega) ?_
              rw [hdp]
              exact Ev.bind ri (Ev.pos rfl h)
            · have im : Ev (fun k => impl_oRecord.f k (b.drop n)) (0, 0, (⟨#[]⟩ : ByteArray), (⟨#[]⟩ : ByteArray), ([] : List S66), 0) := by
                refine ip _ (Ev.bind hi2 (Ev.pos rfl (Ev.pos k1 ?_)))
                refine Ev.pos (by dsimp only; omega) ?_
                refine Ev.pos (by dsimp only; omega) ?_
                rw [hdp]
                exact Ev.bind ri (Ev.neg ce (Ev.now _))
              by_cases hqs : q = seq
              · exact ⟨none, ⟨_, rfl, out (K, q, (⟨#[]⟩ : ByteArray), (⟨#[]⟩ : ByteArray), ([] : List S66), 0, false) hqs (Ev.pos k1 (Ev.bind rs (Ev.neg ce (Ev.now _))))⟩, _, .inl rfl, im⟩
              · exact ⟨none, son hqs, _, .inl rfl, im⟩
          · by_cases k2 : K = 2
            · refine recd (strOfNums (part.drop p)) (⟨#[]⟩ : ByteArray) [] hts h0s (by simp) (by simp) (fun r h hqs => out r hqs (Ev.neg k1 h)) (fun r h => ip r (Ev.bind hi2 (Ev.pos rfl (Ev.neg k1 (Ev.pos k2 ?_)))))
              refine Ev.pos (by dsimp only; omega) ?_
              refine Ev.pos (by dsimp only; omega) ?_
              rw [hdp]
              exact h
            · have im : Ev (fun k => impl_oRecord.f k (b.drop n)) (0, 0, (⟨#[]⟩ : ByteArray), (⟨#[]⟩ : ByteArray), ([] : List S66), 0) := by
                refine ip _ (Ev.bind hi2 (Ev.pos rfl (Ev.neg k1 (Ev.neg k2 ?_))))
                obtain ⟨ok, _, h⟩ := rec_tell K q (⟨#[]⟩ : ByteArray) (⟨#[]⟩ : ByteArray) [] h0s h0s (by simp) (by simp)
                rcases h with ⟨_, hbad⟩ | ⟨_, hk, _⟩
                · exact Ev.step (fun k => by rw [impl_oRecord.j1]) (Ev.bind hbad (Ev.neg (show ¬ (1 : Int) = 0 by decide) (Ev.now _)))
                · omega
              by_cases hqs : q = seq
              · obtain ⟨ok, hok, h⟩ := rec_tell K q (strOfNums (part.drop p)) (⟨#[]⟩ : ByteArray) [] hts h0s (by simp) (by simp)
                rcases h with ⟨rfl, _⟩ | ⟨_, hk, _⟩
                · exact ⟨none, ⟨_, rfl, out (K, q, strOfNums (part.drop p), (⟨#[]⟩ : ByteArray), ([] : List S66), 0, false) hqs (Ev.neg k1 (Ev.step (fun k => by rw [spec_l14Next.j2]) (Ev.bind hok (Ev.neg Bool.false_ne_true (Ev.now _)))))⟩, _, .inl rfl, im⟩
                · omega
              · exact ⟨none, son hqs, _, .inl rfl, im⟩
theorem log_loop (d : Nat) : ∀ (n : Nat) (acc : List S47), b.length - n ≤ d → n ≤ b.length → acc.length ≤ n → (∀ x ∈ acc, okR x) →
    ∃ (out : List S47) (e : Int), out.length ≤ b.length ∧ (∀ x ∈ out, okR x) ∧ Ev (fun k => spec_ReadLog.l0 k b acc (n : Int)) (out, e, 0) ∧ Ev (fun k => impl_ReadLog.l0 k b acc (n : Int)) (out, e, 0) := by
  induction d with
  | zero => ?_
  | succ d ih => ?_
  all_goals
    intro n acc hd hn ha hr
    have wl : wrap64 ((acc.length : Int) + 1) = (acc.length : Int) + 1 := w64 (by omega) (by omega)
    have hdn : b.drop ((n : Int)).toNat = b.drop n := by rw [Int.toNat_natCast]
    obtain ⟨o, ho⟩ := next_both hl hb n hn ((acc.length : Int) + 1)
    cases o with
    | none =>
      obtain ⟨⟨r1, z1, s1⟩, r2, z2, s2⟩ := ho
      refine ⟨acc, (n : Int), by omega, hr, Ev.step (fun k => by rw [spec_ReadLog.l0, wl]) (Ev.bind s1 ?_), Ev.step (fun k => by rw [impl_ReadLog.l0, wl, hdn]) ?_⟩
      · refine Ev.neg (by rw [z1]; exact Bool.false_ne_true) (Ev.now _)
      refine Ev.pos (by omega) ?_
      refine Ev.pos (by omega) (Ev.bind s2 ?_)
      by_cases c : r2.2.2.2.2.2 = 0
      · exact Ev.pos c (Ev.now _)
      · exact Ev.neg c (Ev.neg (z2.resolve_left c) (Ev.now _))
    | some p =>
      obtain ⟨x, e⟩ := p
      obtain ⟨o1, o2, o3, o4, s1, s2⟩ := ho
      first
      | (exfalso; omega)
      | (obtain ⟨out, e2, p1, p2, p3, p4⟩ := ih e (acc ++ [x]) (by omega) o3 (by rw [List.length_append, List.length_singleton]; omega) (fun y hy => by
          rcases List.mem_append.1 hy with hy | hy
          · exact hr y hy
          · rw [List.mem_singleton.1 hy]; exact o1)
         have we : wrap64 ((n : Int) + ((e - n : Nat) : Int)) = (e : Int) := by rw [w64 (by omega) (by omega)]; omega
         refine ⟨out, e2, p1, p2, Ev.step (fun k => by rw [spec_ReadLog.l0, wl]) (Ev.bind s1 (Ev.pos rfl ?_)), Ev.step (fun k => by rw [impl_ReadLog.l0, wl, hdn]) ?_⟩
         · refine Ev.pos (by omega) ?_
           exact p3
         refine Ev.pos (by omega) ?_
         refine Ev.pos (by omega) (Ev.bind s2 ?_)
         refine Ev.neg (by dsimp only; omega) (Ev.pos o4 (Ev.pos (by omega) ?_))
         simp only [we]
         exact p4)
theorem log_both : ∃ (out : List S47) (e : Int), out.length ≤ b.length ∧ (∀ x ∈ out, okR x) ∧ Ev (fun k => spec_ReadLog.f k b) (out, e, 0) ∧ Ev (fun k => impl_ReadLog.f k b) (out, e, 0) := by
  obtain ⟨out, e, h1, h2, h3, h4⟩ := log_loop hl hb b.length 0 [] (by omega) (by omega) (by simp) (by simp)
  refine ⟨out, e, h1, h2, ?_, ?_⟩
  · unfold spec_ReadLog.f; exact Ev.neg (by omega) h3
  · unfold impl_ReadLog.f; exact Ev.neg (by omega) h4
end
/-! ### Records: alike, marked, held -/
theorem rd47_at (xs : List S47) (i : Nat) (h : i < xs.length) : rd_T47 xs (i : Int) = xs[i] := by
  unfold rd_T47
  rw [Int.toNat_natCast, List.getD_eq_getElem?_getD, List.getElem?_eq_getElem h]; rfl
theorem eqRS_ev (l : List S47) (hn : l.length ≤ 1048576) (h : ∀ x ∈ l, okR x) : Ev (fun k => laws_eqRecordS.f k l l) true := by
  unfold laws_eqRecordS.f
  refine Ev.pos rfl ?_
  have key : ∀ d i, i + d = l.length → Ev (fun k => laws_eqRecordS.l0 k l l (i : Int)) true := by
    intro d
    induction d with
    | zero => intro i hi; exact Ev.step (fun k => by rw [laws_eqRecordS.l0, if_neg (by omega)]) (Ev.now _)
    | succ d ih =>
      intro i hi
      have hi' : i < l.length := by omega
      have hv := h _ (List.getElem_mem hi')
      refine Ev.step (fun k => by rw [laws_eqRecordS.l0, if_pos (by omega), if_pos (by omega), if_pos (by omega), rd47_at l i hi', wnD i (by omega)]) ?_
      refine Ev.bind (a := true) ?_ (Ev.pos rfl (ih (i + 1) (by omega)))
      unfold laws_eqRecord.f
      exact Ev.pos rfl (Ev.pos rfl (Ev.pos rfl (Ev.bind (eqDoc_ev _ _ (by have := hv.1; omega) (fun v hv' => okW_V (hv.2 v hv'))) (Ev.pos rfl (Ev.now _)))))
  exact key l.length 0 (by omega)
theorem markRH (n : Nat) (hn : n ≤ 1048576) (d : Nat) : ∀ (i a : Nat) (ys : List S47), i + d = n → ys.length = n → (∀ x ∈ ys.drop i, okR x) → a + 33558532 * d ≤ 140737400000000 →
    ∃ (r : Nat) (zs : List S47), Ev (fun k => laws_markRecordS.l0 k ys (a : Int) (i : Int)) ((r : Int), zs) ∧ zs.length = n ∧ (∀ j, j < i → zs[j]? = ys[j]?) ∧ Ev (fun k => laws_heldRecordS.l0 k zs (a : Int) (i : Int)) (r : Int) := by
  induction d with
  | zero =>
    intro i a ys hi hl _ _
    exact ⟨a, ys, Ev.step (fun k => by rw [laws_markRecordS.l0, if_neg (by omega)]) (Ev.now _), hl, fun _ _ => rfl, Ev.step (fun k => by rw [laws_heldRecordS.l0, if_neg (by omega)]) (Ev.now _)⟩
  | succ d ih =>
    intro i a ys hi hl hv ha
    have hi' : i < ys.length := by omega
    have hv0 := hv ys[i] (by rw [drop_at _ i hi']; exact List.mem_cons_self ..)
    obtain ⟨t1, ht1⟩ := markText_ev (a + 2) (by omega)
    obtain ⟨t2, ht2⟩ := markText_ev (a + 3) (by omega)
    obtain ⟨r1, vs, hm, _, hr1, _, hh⟩ := markVH ys[i].f3.f1.length (by have := hv0.1; omega) ys[i].f3.f1.length 0 (a + 4) ys[i].f3.f1 (by omega) rfl (by rw [List.drop_zero]; exact hv0.2) (by have := hv0.1; omega)
    have hlt : r1 ≤ a + 33558532 := by have := hv0.1; omega
    obtain ⟨r, zs, hr, hzl, hzj, hz⟩ := ih (i + 1) r1 (ys.set i ⟨(a : Int), ((a + 1 : Nat) : Int), t1, ⟨t2, vs⟩⟩) (by omega) (by rw [List.length_set]; exact hl) (fun v hv' => hv v (by
      rw [List.drop_set, if_pos (by omega)] at hv'
      rw [drop_at _ i hi']
      exact List.mem_cons_of_mem _ hv')) (by omega)
    have hzi : zs[i]? = some ⟨(a : Int), ((a + 1 : Nat) : Int), t1, ⟨t2, vs⟩⟩ := by
      rw [hzj i (by omega), List.getElem?_set_self hi']
    have hzi' : i < zs.length := by omega
    have hze : zs[i] = ⟨(a : Int), ((a + 1 : Nat) : Int), t1, ⟨t2, vs⟩⟩ := by
      rw [List.getElem?_eq_getElem hzi'] at hzi
      exact Option.some.inj hzi
    refine ⟨r, zs, Ev.step (fun k => by rw [laws_markRecordS.l0, if_pos (by omega), rd47_at ys i hi', wnD i (by omega), wnD a (by omega), wnD (a + 1) (by omega), wnD (a + 2) (by omega), wnD (a + 3) (by omega), Int.toNat_natCast]) ?_, hzl, fun j hj => ?_, ?_⟩
    · refine Ev.pos (by omega) (Ev.bind ht1 (Ev.bind ht2 (Ev.bind (a := ((r1 : Int), vs)) ?_ hr)))
      unfold laws_markValueS.f
      exact hm
    · rw [hzj j (by omega), List.getElem?_set_ne (by omega)]
    · refine Ev.step (fun k => by rw [laws_heldRecordS.l0, if_pos (by omega), if_pos (by omega), rd47_at zs i hzi', hze, wnD i (by omega), wnD a (by omega), wnD (a + 1) (by omega), wnD (a + 2) (by omega), wnD (a + 3) (by omega)]) ?_
      refine Ev.pos rfl (Ev.pos rfl (Ev.bind ht1 (Ev.pos rfl (Ev.bind ht2 (Ev.pos rfl (Ev.bind (a := (r1 : Int)) ?_ (Ev.neg (by omega) hz)))))))
      unfold laws_heldValueS.f
      exact hh

theorem FnExactReadLog : laws_FnExactReadLog.Pure := by
  intro l _ hn hb0
  refine Ev.rounds (g := fun k => laws_FnExactReadLog.f k l) ?_
  unfold laws_FnExactReadLog.f
  by_cases h : (l.length : Int) > 1048576
  · exact Ev.pos h (Ev.now _)
  · refine Ev.neg h ?_
    have hb : ∀ x ∈ l, 0 ≤ x ∧ x ≤ 255 := fun x hx => wf8 (hb0 x hx)
    obtain ⟨out, e, ho, hr, hs, hi⟩ := log_both (b := l) (by omega) hb
    have hto := toB_ev l (by omega)
    have heq := eqRS_ev out (by omega) hr
    have qB := eqB_ev l (by omega)
    obtain ⟨ys, hmb⟩ := markB_ev l (by omega)
    obtain ⟨r, zs, hm, _, _, hh⟩ := markRH out.length (by omega) out.length 0 1 out (by omega) rfl (by rw [List.drop_zero]; exact hr) (by omega)
    have hm' : Ev (fun k => laws_markRecordS.f k out 1) ((r : Int), zs) := hm
    have hh' : Ev (fun k => laws_heldRecordS.f k zs 1) (r : Int) := hh
    refine Ev.bind hto (Ev.bind hs (Ev.bind hto (Ev.bind hi (Ev.bind heq (Ev.pos rfl (Ev.pos rfl ?_))))))
    simp only [bne_self_eq_false]
    refine Ev.step (fun k => by rw [laws_FnExactReadLog.j0]) ?_
    refine Ev.neg Bool.false_ne_true (Ev.bind hto (Ev.bind qB (Ev.pos rfl (Ev.bind hmb (Ev.neg (by dsimp only; omega) (Ev.bind heq (Ev.pos rfl (Ev.pos rfl ?_))))))))
    simp only [bne_self_eq_false]
    refine Ev.step (fun k => by rw [laws_FnExactReadLog.j1]) ?_
    refine Ev.neg Bool.false_ne_true (Ev.bind hm' (Ev.bind hh' (Ev.neg (by omega) (Ev.pos rfl (Ev.bind hto (Ev.bind hi (Ev.bind heq (Ev.pos rfl (Ev.pos rfl ?_)))))))))
    simp only [bne_self_eq_false]
    refine Ev.step (fun k => by rw [laws_FnExactReadLog.j2]) ?_
    exact Ev.neg Bool.false_ne_true (Ev.bind hh' (Ev.neg (by omega) (Ev.pos rfl (Ev.now _))))

end Go.Proofs.Ytnpdmleglcbobaa.Pure
