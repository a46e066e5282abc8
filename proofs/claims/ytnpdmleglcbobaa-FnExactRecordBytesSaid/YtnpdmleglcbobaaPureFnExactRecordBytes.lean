/- Whatever the record, the program's RecordBytes returns what the reference's returns, writes into no argument and hands out memory of its own: the law's function answers true. No condition. -/
import Derived.Test.YtnpdmleglcbobaaXFnExactRecordBytesx12
import Derived.Test.YtnpdmleglcbobaaKit
import Derived.Lib.ItoaNum
import Derived.Lib.Bytes
import Derived.Test.YtnpdmleglcbobaaWfFnExactRecordBytes
set_option linter.unusedSimpArgs false
set_option linter.unusedVariables false
namespace Go.Proofs.Ytnpdmleglcbobaa.Pure
open Go.RowKit Go.Proofs.Ytnpdmleglcbobaa.XFnExactRecordBytes Go.Proofs.YtnpdmleglcbobaaW.PrintWords Go.Proofs.YtnpdmleglcbobaaW.PrintLast Go.Proofs.YtnpdmleglcbobaaW.PrintMore Go.Proofs.Ytnpdmleglcbobaa.Kit

theorem Ev.steps {α : Type} {g f : Nat → Option α} {r : α} (c : Nat) (h : ∀ k, g (k + c) = f k) (k : Ev f r) : Ev g r := by
  obtain ⟨K, hK⟩ := k
  refine ⟨K + c, fun n hn => ?_⟩
  have := h (n - c)
  rw [Nat.sub_add_cancel (by omega)] at this
  rw [this]; exact hK _ (by omega)

theorem Ev.pos {α : Type} {c : Prop} [Decidable c] {f g : Nat → Option α} {r : α} (h : c) (k : Ev f r) : Ev (fun n => if c then f n else g n) r := Ev.congr (fun n => if_pos h) k
theorem Ev.neg {α : Type} {c : Prop} [Decidable c] {f g : Nat → Option α} {r : α} (h : ¬ c) (k : Ev g r) : Ev (fun n => if c then f n else g n) r := Ev.congr (fun n => if_neg h) k
theorem Ev.ofEq {α : Type} {x : Option α} {r : α} (h : x = some r) : Ev (fun _ => x) r := ⟨0, fun _ _ => h⟩
theorem Ev.from {α : Type} {g : Nat → Option α} {r : α} (K : Nat) (h : ∀ k, K < k → g k = some r) : Ev g r := ⟨K + 1, fun k hk => h k (by omega)⟩

/-! ### Rows of texts: equal, marked, held -/
theorem wnS (i : Nat) (h : i ≤ 281474976710656) : wrap64 ((i : Int) + 1) = ((i + 1 : Nat) : Int) := by rw [w64 (by omega) (by omega)]; omega
theorem eqSE (xs : List ByteArray) (hn : xs.length ≤ 140737488351232) : Ev (fun k => laws_eqStringS.f k xs xs) true := by
  unfold laws_eqStringS.f
  refine Ev.pos rfl ?_
  have key : ∀ d i, i + d = xs.length → Ev (fun k => laws_eqStringS.l0 k xs xs (i : Int)) true := by
    intro d
    induction d with
    | zero => intro i hi; exact Ev.step (fun k => by rw [laws_eqStringS.l0, if_neg (by omega)]) (Ev.now _)
    | succ d ih =>
      intro i hi
      refine Ev.step (fun k => ?_) (ih (i + 1) (by omega))
      rw [laws_eqStringS.l0, if_pos (by omega), if_pos (by omega), if_pos (by omega), if_pos rfl, wnS i (by omega)]
  exact key xs.length 0 (by omega)
theorem markText_ex (n : Nat) : ∀ acc : ByteArray, acc.size + n ≤ 9223372036854775000 → ∃ t, Ev (fun k => laws_markText.l0 k (n : Int) acc) t := by
  induction n using Nat.strongRecOn with
  | _ n ih =>
    intro acc h
    by_cases c : n = 0
    · subst c
      refine ⟨(⟨#[109]⟩ : ByteArray) ++ acc, Ev.step (fun k => ?_) (Ev.now _)⟩
      rw [laws_markText.l0, if_neg (by omega), if_pos (by omega)]
    · have e0 : wrap64 (Int.tdiv (n : Int) 10) = ((n / 10 : Nat) : Int) := by rw [Int.tdiv_eq_ediv_of_nonneg (by omega), w64 (by omega) (by omega)]; omega
      generalize hy : (strOfNums ([(wrap64 (48 + (Int.tmod (n : Int) 10))) % 256] : List Int)) = y
      have hz : y.size = 1 := by rw [← hy]; simp [strOfNums, ByteArray.size]
      obtain ⟨t, ht⟩ := ih (n / 10) (by omega) (y ++ acc) (by rw [ByteArray.size_append]; omega)
      refine ⟨t, Ev.step (fun k => ?_) ht⟩
      rw [laws_markText.l0, if_pos (by omega), Option.bind_some, hy, if_pos (by omega), e0]
theorem markText_ev (n : Nat) (h : n ≤ 9223372036854775000) : ∃ t, Ev (fun k => laws_markText.f k (n : Int)) t := by
  unfold laws_markText.f
  by_cases c : (n : Int) ≤ 0
  · exact ⟨_, Ev.pos c (Ev.now _)⟩
  · obtain ⟨t, ht⟩ := markText_ex n (⟨#[]⟩ : ByteArray) (by show 0 + n ≤ _; omega)
    exact ⟨t, Ev.neg c ht⟩
theorem marksSE (xs : List ByteArray) (a : Nat) (hn : xs.length ≤ 140737488351232) (ha : a ≤ 140737488351232) : ∃ ys : List ByteArray, ys.length = xs.length ∧ Ev (fun k => laws_markStringS.f k xs (a : Int)) (((a + xs.length : Nat) : Int), ys) := by
  have hc : ∀ i : Nat, ∃ t, i ≤ 9223372036854775000 → Ev (fun k => laws_markText.f k (i : Int)) t := by
    intro i
    by_cases h : i ≤ 9223372036854775000
    · obtain ⟨t, ht⟩ := markText_ev i h; exact ⟨t, fun _ => ht⟩
    · exact ⟨ByteArray.empty, fun h' => absurd h' h⟩
  obtain ⟨mt, hmt⟩ : ∃ mt : Nat → ByteArray, ∀ i : Nat, i ≤ 9223372036854775000 → Ev (fun k => laws_markText.f k (i : Int)) (mt i) := ⟨fun i => Classical.choose (hc i), fun i => Classical.choose_spec (hc i)⟩
  let full := (List.range xs.length).map (fun i => mt (a + i))
  have hfl : full.length = xs.length := by simp [full]
  have hmark : ∀ d i, i + d = xs.length → Ev (fun k => laws_markStringS.l0 k (full.take i ++ xs.drop i) ((a + i : Nat) : Int) (i : Int)) (((a + xs.length : Nat) : Int), full) := by
    intro d
    induction d with
    | zero =>
      intro i hi
      obtain rfl : i = xs.length := by omega
      refine Ev.step (fun k => ?_) (Ev.now _)
      rw [laws_markStringS.l0, if_neg (by simp; omega), List.drop_length, List.append_nil, List.take_of_length_le (by omega)]
    | succ d ih =>
      intro i hi
      have hi' : i < xs.length := by omega
      refine Ev.step (f := fun k => (laws_markText.f k ((a + i : Nat) : Int)).bind fun t => laws_markStringS.l0 k ((full.take i ++ xs.drop i).set i t) ((a + (i + 1) : Nat) : Int) ((i + 1 : Nat) : Int)) (fun k => ?_) (Ev.bind (hmt (a + i) (by omega)) ?_)
      · rw [laws_markStringS.l0, if_pos (by simp; omega), wnS (a + i) (by omega), wnS i (by omega)]
        congr 1
      · have e : (full.take i ++ xs.drop i).set i (mt (a + i)) = full.take (i + 1) ++ xs.drop (i + 1) := by
          rw [List.set_append_right i (mt (a + i)) (by simp; omega)]
          simp only [List.length_take]
          rw [Nat.min_eq_left (by omega), Nat.sub_self, List.drop_eq_getElem_cons hi', List.set_cons_zero, List.take_succ_eq_append_getElem (by omega), List.append_assoc]
          have : full[i]'(by omega) = mt (a + i) := by simp [full]
          rw [this]; rfl
        rw [e]; exact ih (i + 1) (by omega)
  refine ⟨full, hfl, ?_⟩
  have h := hmark xs.length 0 (by omega)
  rw [List.take_zero, List.nil_append, List.drop_zero] at h
  exact h

/-! ### Documents: their sizes, copies, bytes -/
theorem wnD (i : Nat) (h : i ≤ 281474976710656) : wrap64 ((i : Int) + 1) = ((i + 1 : Nat) : Int) := by rw [w64 (by omega) (by omega)]; omega
theorem n0 : ((0 : Nat) : Int) = 0 := rfl
theorem rdS_at (xs : List ByteArray) (i : Nat) (h : i < xs.length) : rdOf ByteArray.empty xs (i : Int) = xs[i] := by
  rw [rdOf, Int.toNat_natCast, List.getD_eq_getElem?_getD, List.getElem?_eq_getElem h]; rfl
theorem rd66_at (xs : List S66) (i : Nat) (h : i < xs.length) : rd_T66 xs (i : Int) = xs[i] := by
  unfold rd_T66
  rw [Int.toNat_natCast, List.getD_eq_getElem?_getD, List.getElem?_eq_getElem h]; rfl
theorem rdI_at (xs : List Int) (i : Nat) (h : i < xs.length) : rd xs (i : Int) = xs[i] := rd_lt xs i h
theorem flat_len {α : Type} (f : α → List Int) (B : Nat) (l : List α) (h : ∀ x ∈ l, (f x).length ≤ B) : (l.flatMap f).length ≤ l.length * B := by
  induction l with
  | nil => simp
  | cons a l ih =>
    have h1 := h a (List.mem_cons_self ..)
    have h2 := ih (fun x hx => h x (List.mem_cons_of_mem _ hx))
    rw [List.flatMap_cons, List.length_append, List.length_cons, Nat.add_mul]; omega
def pb (n : Int) : List Int := vb 8 n
theorem pb_len (n : Int) : 1 ≤ (pb n).length ∧ (pb n).length ≤ 9 := vb_length 8 n
theorem putS_ev (n : Int) (h0 : 0 ≤ n) (h1 : n ≤ 9000000000000000000) : Ev (fun k => spec_l03Put.f k n) (pb n) :=
  ⟨9, fun k hk => put_spec spec_l03Put.f (fun _ _ => rfl) 8 (by omega) k n h0 (by rw [pow128_8]; omega) (by omega)⟩
theorem putI_ev (pre : List Int) (n : Int) (hp : pre.length ≤ 140737488355000) (h0 : 0 ≤ n) (h1 : n ≤ 9000000000000000000) : Ev (fun k => impl_putInt.f k pre n) (pre ++ pb n) :=
  ⟨9, fun k hk => put_impl impl_putInt.l0 (fun _ _ _ => rfl) 8 (by omega) k pre n (by omega) h0 (by rw [pow128_8]; omega) (by omega)⟩
def tb (t : ByteArray) : List Int := pb (t.size : Int) ++ bytesOf t
theorem tb_len (t : ByteArray) : (tb t).length ≤ 9 + t.size := by
  unfold tb
  rw [List.length_append, bytesOf_length]
  have := pb_len (t.size : Int); omega
theorem putTS_ev (pre : List Int) (t : ByteArray) (h : pre.length + t.size ≤ 140737488355000) : Ev (fun k => spec_l06PutText.f k pre t) (pre ++ tb t) := by
  have hp := pb_len (t.size : Int)
  unfold spec_l06PutText.f
  refine Ev.bind (putS_ev _ (by omega) (by omega)) ?_
  refine Ev.pos (by omega) ?_
  simp only [Option.bind_some]
  refine Ev.pos (by rw [List.length_append]; omega) ?_
  unfold tb
  rw [List.append_assoc]
  exact Ev.now _
theorem putTI_ev (pre : List Int) (t : ByteArray) (h : pre.length + t.size ≤ 140737488354900) : Ev (fun k => impl_putText.f k pre t) (pre ++ tb t) := by
  have hp := pb_len (t.size : Int)
  unfold impl_putText.f
  refine Ev.bind (putI_ev pre _ (by omega) (by omega) (by omega)) ?_
  refine Ev.pos (by rw [List.length_append]; omega) ?_
  unfold tb
  rw [List.append_assoc]
  exact Ev.now _
def nv (n : Int) : Int := if n < 0 then -2 * n - 1 else 2 * n
def numOK (n : Int) : Bool := decide (-1000000000000 ≤ n ∧ n ≤ 1000000000000)
theorem nv_ok (n : Int) (h : numOK n = true) : 0 ≤ nv n ∧ nv n ≤ 2000000000000 := by
  have := of_decide_eq_true h
  unfold nv; split <;> omega
def nb (n : Int) : List Int := pb (nv n)
def txtOK (t : ByteArray) : Bool := decide (t.size ≤ 65536)
def valOK (v : S66) : Bool := decide (v.f0.size ≤ 65536 ∧ v.f1.length ≤ 4096 ∧ v.f2.length ≤ 4096) && (v.f1.all txtOK && v.f2.all numOK)
def fits (id : ByteArray) (l : List S66) : Bool := decide (id.size ≤ 65536 ∧ l.length ≤ 4096) && l.all valOK
def vbytes (v : S66) : List Int := tb v.f0 ++ (pb (v.f1.length : Int) ++ (v.f1.flatMap tb ++ (pb (v.f2.length : Int) ++ v.f2.flatMap nb)))
def dbytes (id : ByteArray) (l : List S66) : List Int := tb id ++ (pb (l.length : Int) ++ l.flatMap vbytes)
theorem valOK_parts (v : S66) (h : valOK v = true) : v.f0.size ≤ 65536 ∧ v.f1.length ≤ 4096 ∧ v.f2.length ≤ 4096 ∧ (∀ t ∈ v.f1, t.size ≤ 65536) ∧ ∀ n ∈ v.f2, numOK n = true := by
  unfold valOK at h
  rw [Bool.and_eq_true, Bool.and_eq_true] at h
  obtain ⟨h1, h2, h3⟩ := h
  obtain ⟨g1, g2, g3⟩ := of_decide_eq_true h1
  exact ⟨g1, g2, g3, fun t ht => of_decide_eq_true (List.all_eq_true.1 h2 t ht), fun n hn => List.all_eq_true.1 h3 n hn⟩
theorem vbytes_len (v : S66) (h : valOK v = true) : (vbytes v).length ≤ 300000000 := by
  obtain ⟨g1, g2, g3, g4, g5⟩ := valOK_parts v h
  have e1 := tb_len v.f0
  have e2 := pb_len (v.f1.length : Int)
  have e3 := flat_len tb 65545 v.f1 (fun t ht => by have := tb_len t; have := g4 t ht; omega)
  have e4 := pb_len (v.f2.length : Int)
  have e5 := flat_len nb 9 v.f2 (fun n _ => (pb_len _).2)
  have e6 : v.f1.length * 65545 ≤ 4096 * 65545 := Nat.mul_le_mul_right _ g2
  have e7 : v.f2.length * 9 ≤ 4096 * 9 := Nat.mul_le_mul_right _ g3
  unfold vbytes
  simp only [List.length_append]
  omega
theorem dbytes_len (id : ByteArray) (l : List S66) (h : fits id l = true) : (dbytes id l).length ≤ 2000000000000 := by
  unfold fits at h
  rw [Bool.and_eq_true] at h
  obtain ⟨h1, h2⟩ := of_decide_eq_true h.1
  have e1 := tb_len id
  have e2 := pb_len (l.length : Int)
  have e3 := flat_len vbytes 300000000 l (fun v hv => vbytes_len v (List.all_eq_true.1 h.2 v hv))
  have e4 : l.length * 300000000 ≤ 4096 * 300000000 := Nat.mul_le_mul_right _ h2
  unfold dbytes
  simp only [List.length_append]
  omega
theorem drop_at {α : Type} (l : List α) (i : Nat) (h : i < l.length) : l.drop i = l[i] :: l.drop (i + 1) := List.drop_eq_getElem_cons h
/-- Lists within an element: short enough to be counted. -/
def okV (v : S66) : Prop := v.f1.length ≤ 1048576 ∧ v.f2.length ≤ 1048576
theorem valOK_f (v : S66) (h : ¬ (v.f0.size ≤ 65536 ∧ v.f1.length ≤ 4096 ∧ v.f2.length ≤ 4096)) : valOK v = false := by unfold valOK; rw [decide_eq_false h, Bool.false_and]
theorem valOK_t (v : S66) (h : v.f0.size ≤ 65536 ∧ v.f1.length ≤ 4096 ∧ v.f2.length ≤ 4096) : valOK v = (v.f1.all txtOK && v.f2.all numOK) := by unfold valOK; rw [decide_eq_true h, Bool.true_and]
theorem fits_f (id : ByteArray) (l : List S66) (h : ¬ (id.size ≤ 65536 ∧ l.length ≤ 4096)) : fits id l = false := by unfold fits; rw [decide_eq_false h, Bool.false_and]
theorem fits_t (id : ByteArray) (l : List S66) (h : id.size ≤ 65536 ∧ l.length ≤ 4096) : fits id l = l.all valOK := by unfold fits; rw [decide_eq_true h, Bool.true_and]
/-! the reference's look at the bounds -/
theorem fits2_ev (id : ByteArray) (l : List S66) (i : Nat) (v : S66) (hv : okV v) (r : Bool) (hc : Ev (fun k => spec_l06Fits.l0 k (wrap64 ((i : Int) + 1)) id l) r) (d : Nat) : ∀ j, j + d = v.f2.length → Ev (fun k => spec_l06Fits.l2 k (i : Int) (j : Int) id l v.f0 v.f1 v.f2) (if (v.f2.drop j).all numOK then r else false) := by
  obtain ⟨h1, h2⟩ := hv
  induction d with
  | zero =>
    intro j hj
    rw [List.drop_of_length_le (by omega)]
    exact Ev.step (fun k => by rw [spec_l06Fits.l2, if_neg (by omega)]) hc
  | succ d ih =>
    intro j hj
    rw [drop_at _ j (by omega), List.all_cons]
    refine Ev.step (fun k => by rw [spec_l06Fits.l2, if_pos (by omega), if_pos (by omega), rdI_at _ _ (by omega), wnD j (by omega)]) ?_
    unfold numOK
    by_cases c1 : v.f2[j] < -1000000000000
    · rw [decide_eq_false (by omega), Bool.false_and]; exact Ev.pos c1 (Ev.now _)
    · by_cases c2 : v.f2[j] > 1000000000000
      · rw [decide_eq_false (by omega), Bool.false_and]; exact Ev.neg c1 (Ev.pos c2 (Ev.now _))
      · rw [decide_eq_true (by omega), Bool.true_and]; exact Ev.neg c1 (Ev.neg c2 (ih (j + 1) (by omega)))
theorem fits1_ev (id : ByteArray) (l : List S66) (i : Nat) (v : S66) (hv : okV v) (r : Bool) (hc : Ev (fun k => spec_l06Fits.l0 k (wrap64 ((i : Int) + 1)) id l) r) (d : Nat) : ∀ j, j + d = v.f1.length → Ev (fun k => spec_l06Fits.l1 k (i : Int) (j : Int) id l v.f0 v.f1 v.f2) (if (v.f1.drop j).all txtOK && v.f2.all numOK then r else false) := by
  have h1 := hv.1
  induction d with
  | zero =>
    intro j hj
    rw [List.drop_of_length_le (by omega)]
    have h := fits2_ev id l i v hv r hc v.f2.length 0 (by omega)
    rw [List.drop_zero, n0] at h
    exact Ev.step (fun k => by rw [spec_l06Fits.l1, if_neg (by omega)]) h
  | succ d ih =>
    intro j hj
    rw [drop_at _ j (by omega), List.all_cons]
    refine Ev.step (fun k => by rw [spec_l06Fits.l1, if_pos (by omega), if_pos (by omega), rdS_at _ _ (by omega), wnD j (by omega)]) ?_
    unfold txtOK
    by_cases c : ((v.f1[j]).size : Int) > 65536
    · rw [decide_eq_false (by omega), Bool.false_and, Bool.false_and]; exact Ev.pos c (Ev.now _)
    · rw [decide_eq_true (by omega), Bool.true_and]; exact Ev.neg c (ih (j + 1) (by omega))
theorem fits0_ev (id : ByteArray) (l : List S66) (hn : l.length ≤ 1048576) (hl : ∀ v ∈ l, okV v) (d : Nat) : ∀ i, i + d = l.length → Ev (fun k => spec_l06Fits.l0 k (i : Int) id l) ((l.drop i).all valOK) := by
  induction d with
  | zero =>
    intro i hi
    rw [List.drop_of_length_le (by omega)]
    exact Ev.step (f := fun _ => some true) (fun k => by rw [spec_l06Fits.l0, if_neg (by omega)]) (Ev.now _)
  | succ d ih =>
    intro i hi
    have hv := hl _ (List.getElem_mem (show i < l.length by omega))
    have hc := ih (i + 1) (by omega)
    rw [← wnD i (by omega)] at hc
    rw [drop_at _ i (by omega), List.all_cons]
    refine Ev.step (fun k => by rw [spec_l06Fits.l0, if_pos (by omega), if_pos (by omega), rd66_at _ _ (by omega)]) ?_
    generalize l[i]'(by omega) = v at hv ⊢
    by_cases c1 : (v.f0.size : Int) > 65536
    · rw [valOK_f v (by omega), Bool.false_and]
      exact Ev.pos c1 (Ev.step (fun k => by rw [spec_l06Fits.j2]) (Ev.pos rfl (Ev.now _)))
    · refine Ev.neg c1 ?_
      by_cases c2 : (v.f1.length : Int) > 4096
      · rw [valOK_f v (by omega), Bool.false_and]
        exact Ev.pos c2 (Ev.step (fun k => by rw [spec_l06Fits.j2]) (Ev.pos rfl (Ev.now _)))
      · refine Ev.neg c2 (Ev.step (fun k => by rw [spec_l06Fits.j2]) ?_)
        by_cases c3 : (v.f2.length : Int) > 4096
        · rw [valOK_f v (by omega), Bool.false_and, decide_eq_true c3]
          exact Ev.pos rfl (Ev.now _)
        · rw [valOK_t v (by omega), decide_eq_false c3]
          refine Ev.neg Bool.false_ne_true ?_
          have h := fits1_ev id l i v hv _ hc v.f1.length 0 (by omega)
          rw [List.drop_zero, n0] at h
          cases hb : (v.f1.all txtOK && v.f2.all numOK) with
          | true => rw [hb] at h; rw [Bool.true_and]; exact h
          | false => rw [hb] at h; rw [Bool.false_and]; exact h
theorem fits_ev (id : ByteArray) (l : List S66) (hn : l.length ≤ 1048576) (hl : ∀ v ∈ l, okV v) : Ev (fun k => spec_l06Fits.f k id l) (fits id l) := by
  unfold spec_l06Fits.f
  by_cases c1 : (id.size : Int) > 65536
  · rw [fits_f id l (by omega)]
    exact Ev.pos c1 (Ev.step (fun k => by rw [spec_l06Fits.j0]) (Ev.pos rfl (Ev.now _)))
  · refine Ev.neg c1 (Ev.step (fun k => by rw [spec_l06Fits.j0]) ?_)
    by_cases c2 : (l.length : Int) > 4096
    · rw [fits_f id l (by omega), decide_eq_true c2]
      exact Ev.pos rfl (Ev.now _)
    · rw [fits_t id l (by omega), decide_eq_false c2]
      have h := fits0_ev id l hn hl l.length 0 (by omega)
      rw [List.drop_zero, n0] at h
      exact Ev.neg Bool.false_ne_true h
/-! the reference's bytes -/
theorem putNS_ev (pre : List Int) (n : Int) (hn : numOK n = true) (h : pre.length ≤ 140737488355000) : Ev (fun k => spec_l06PutNumber.f k pre n) (pre ++ nb n) := by
  have hv := nv_ok n hn
  have hb := of_decide_eq_true hn
  unfold spec_l06PutNumber.f
  by_cases c : n < 0
  · have e1 : wrap64 ((-2) * n) = -2 * n := w64 (by omega) (by omega)
    have e2 : wrap64 (-2 * n - 1) = nv n := by rw [w64 (by omega) (by omega)]; unfold nv; rw [if_pos c]
    rw [e1, e2]
    have := pb_len (nv n)
    exact Ev.pos c (Ev.bind (putS_ev _ hv.1 (by omega)) (Ev.pos (by omega) (Ev.now _)))
  · have e2 : wrap64 (2 * n) = nv n := by rw [w64 (by omega) (by omega)]; unfold nv; rw [if_neg c]
    rw [e2]
    have := pb_len (nv n)
    exact Ev.neg c (Ev.bind (putS_ev _ hv.1 (by omega)) (Ev.pos (by omega) (Ev.now _)))
theorem by2_ev (id : ByteArray) (l : List S66) (i : Nat) (v : S66) (h2 : v.f2.length ≤ 4096) (hN : ∀ n ∈ v.f2, numOK n = true) (r : List Int) (d : Nat) : ∀ j pre, j + d = v.f2.length → pre.length + 9 * d ≤ 140737488350000 →
    Ev (fun k => spec_l06Bytes.l0 k (pre ++ (v.f2.drop j).flatMap nb) (wrap64 ((i : Int) + 1)) id l) r → Ev (fun k => spec_l06Bytes.l2 k pre (i : Int) (j : Int) id l v.f0 v.f1 v.f2) r := by
  induction d with
  | zero =>
    intro j pre hj hp hc
    rw [List.drop_of_length_le (by omega), List.flatMap_nil, List.append_nil] at hc
    exact Ev.step (fun k => by rw [spec_l06Bytes.l2, if_neg (by omega)]) hc
  | succ d ih =>
    intro j pre hj hp hc
    rw [drop_at _ j (by omega), List.flatMap_cons, ← List.append_assoc] at hc
    refine Ev.step (fun k => by rw [spec_l06Bytes.l2, if_pos (by omega), if_pos (by omega), rdI_at _ _ (by omega), wnD j (by omega)]) ?_
    have hq := (pb_len (nv (v.f2[j]'(by omega)))).2
    refine Ev.bind (putNS_ev pre _ (hN _ (List.getElem_mem _)) (by omega)) ?_
    exact ih (j + 1) _ (by omega) (by rw [List.length_append]; unfold nb; omega) hc
theorem by1_ev (id : ByteArray) (l : List S66) (i : Nat) (v : S66) (h1 : v.f1.length ≤ 4096) (h2 : v.f2.length ≤ 4096) (hT : ∀ t ∈ v.f1, t.size ≤ 65536) (hN : ∀ n ∈ v.f2, numOK n = true) (r : List Int) (d : Nat) : ∀ j pre, j + d = v.f1.length → pre.length + 65545 * d ≤ 140737488300000 →
    Ev (fun k => spec_l06Bytes.l0 k (pre ++ ((v.f1.drop j).flatMap tb ++ (pb (v.f2.length : Int) ++ v.f2.flatMap nb))) (wrap64 ((i : Int) + 1)) id l) r → Ev (fun k => spec_l06Bytes.l1 k pre (i : Int) (j : Int) id l v.f0 v.f1 v.f2) r := by
  induction d with
  | zero =>
    intro j pre hj hp hc
    have hq := pb_len (v.f2.length : Int)
    rw [List.drop_of_length_le (by omega), List.flatMap_nil, List.nil_append, ← List.append_assoc] at hc
    refine Ev.step (fun k => by rw [spec_l06Bytes.l1, if_neg (by omega)]) ?_
    refine Ev.bind (putS_ev _ (by omega) (by omega)) (Ev.pos (by omega) ?_)
    exact by2_ev id l i v h2 hN r v.f2.length 0 _ (by omega) (by rw [List.length_append]; omega) (by rw [List.drop_zero]; exact hc)
  | succ d ih =>
    intro j pre hj hp hc
    rw [drop_at _ j (by omega), List.flatMap_cons, List.append_assoc, ← List.append_assoc] at hc
    refine Ev.step (fun k => by rw [spec_l06Bytes.l1, if_pos (by omega), if_pos (by omega), rdS_at _ _ (by omega), wnD j (by omega)]) ?_
    have ht := hT _ (List.getElem_mem (show j < v.f1.length by omega))
    have hq := tb_len (v.f1[j]'(by omega))
    refine Ev.bind (putTS_ev pre _ (by omega)) ?_
    exact ih (j + 1) _ (by omega) (by rw [List.length_append]; omega) hc
theorem by0_ev (id : ByteArray) (l : List S66) (hn : l.length ≤ 4096) (hl : ∀ v ∈ l, valOK v = true) (d : Nat) : ∀ i pre, i + d = l.length → pre.length + 300000000 * d ≤ 140737480000000 → Ev (fun k => spec_l06Bytes.l0 k pre (i : Int) id l) (pre ++ (l.drop i).flatMap vbytes) := by
  induction d with
  | zero =>
    intro i pre hi hp
    rw [List.drop_of_length_le (by omega), List.flatMap_nil, List.append_nil]
    exact Ev.step (fun k => by rw [spec_l06Bytes.l0, if_neg (by omega)]) (Ev.now _)
  | succ d ih =>
    intro i pre hi hp
    have hv := hl _ (List.getElem_mem (show i < l.length by omega))
    rw [drop_at _ i (by omega), List.flatMap_cons]
    refine Ev.step (fun k => by rw [spec_l06Bytes.l0, if_pos (by omega), if_pos (by omega), rd66_at _ _ (by omega)]) ?_
    generalize l[i]'(by omega) = v at hv ⊢
    have hvl := vbytes_len v hv
    obtain ⟨g1, g2, g3, g4, g5⟩ := valOK_parts v hv
    have e1 := tb_len v.f0
    have e2 := pb_len (v.f1.length : Int)
    have hc := ih (i + 1) (pre ++ vbytes v) (by omega) (by rw [List.length_append]; omega)
    rw [← wnD i (by omega)] at hc
    refine Ev.bind (putTS_ev pre _ (by omega)) ?_
    refine Ev.bind (putS_ev _ (by omega) (by omega)) ?_
    refine Ev.pos (by rw [List.length_append]; omega) ?_
    refine by1_ev id l i v g2 g3 g4 g5 _ v.f1.length 0 _ (by omega) (by simp only [List.length_append]; omega) ?_
    rw [List.drop_zero]
    have e : pre ++ tb v.f0 ++ pb (v.f1.length : Int) ++ (v.f1.flatMap tb ++ (pb (v.f2.length : Int) ++ v.f2.flatMap nb)) = pre ++ vbytes v := by unfold vbytes; simp only [List.append_assoc]
    rw [e, ← List.append_assoc]
    exact hc
theorem bytes_ev (id : ByteArray) (l : List S66) (h : fits id l = true) : Ev (fun k => spec_l06Bytes.f k id l) (dbytes id l) := by
  unfold fits at h
  rw [Bool.and_eq_true] at h
  obtain ⟨h1, h2⟩ := of_decide_eq_true h.1
  have e1 := tb_len id
  have e2 := pb_len (l.length : Int)
  unfold spec_l06Bytes.f
  have h0 := putTS_ev [] id (by simp; omega)
  rw [List.nil_append] at h0
  refine Ev.bind h0 ?_
  refine Ev.bind (putS_ev _ (by omega) (by omega)) ?_
  refine Ev.pos (by omega) ?_
  have hb := by0_ev id l h2 (List.all_eq_true.1 h.2) l.length 0 (tb id ++ pb (l.length : Int)) (by omega) (by rw [List.length_append]; omega)
  rw [List.drop_zero, List.append_assoc] at hb
  exact hb
def docTell (id : ByteArray) (l : List S66) : List Int × Int := if fits id l = true then (dbytes id l, 0) else ([], 12)
theorem docTell_len (id : ByteArray) (l : List S66) : (docTell id l).1.length ≤ 2000000000000 := by
  unfold docTell
  split
  · rename_i h; exact dbytes_len id l h
  · simp

/-! the program's -/
theorem within_ev (n : Int) : impl_within.f n (-1000000000000) 1000000000000 = some (numOK n) := by
  unfold impl_within.f numOK
  split
  · congr 1; rw [Bool.eq_iff_iff]; simp; omega
  · rename_i h; rw [decide_eq_false (by omega)]
theorem d2_ev (id : ByteArray) (l : List S66) (i : Nat) (v : S66) (hv : okV v) (r : List Int × Int) (d : Nat) : ∀ j, j + d = v.f2.length → ((v.f2.drop j).all numOK = true → Ev (fun k => impl_DocBytes.l0 k l (l.length : Int) (wrap64 ((i : Int) + 1)) id l) r) → Ev (fun k => impl_DocBytes.l2 k l (l.length : Int) (i : Int) v.f2 (v.f2.length : Int) (j : Int) id l) (if (v.f2.drop j).all numOK then r else ([], 12)) := by
  obtain ⟨h1, h2⟩ := hv
  induction d with
  | zero =>
    intro j hj hc
    rw [List.drop_of_length_le (by omega)] at hc ⊢
    exact Ev.step (fun k => by rw [impl_DocBytes.l2, if_neg (by omega)]) (hc rfl)
  | succ d ih =>
    intro j hj hc
    rw [drop_at _ j (by omega), List.all_cons] at hc ⊢
    refine Ev.step (fun k => by rw [impl_DocBytes.l2, if_pos (by omega), if_pos (by omega), if_pos (by omega), rdI_at _ _ (by omega), wnD j (by omega), within_ev, Option.bind_some]) ?_
    by_cases c : numOK v.f2[j] = true
    · rw [c, Bool.true_and] at hc ⊢; exact Ev.pos rfl (ih (j + 1) (by omega) hc)
    · rw [Bool.eq_false_iff.2 c, Bool.false_and]; exact Ev.neg Bool.false_ne_true (Ev.now _)
theorem d1_ev (id : ByteArray) (l : List S66) (i : Nat) (v : S66) (hv : okV v) (r : List Int × Int) (d : Nat) : ∀ j, j + d = v.f1.length → (((v.f1.drop j).all txtOK && v.f2.all numOK) = true → Ev (fun k => impl_DocBytes.l0 k l (l.length : Int) (wrap64 ((i : Int) + 1)) id l) r) → Ev (fun k => impl_DocBytes.l1 k l (l.length : Int) (i : Int) v.f1 (v.f1.length : Int) (j : Int) id l v.f0 v.f1 v.f2) (if (v.f1.drop j).all txtOK && v.f2.all numOK then r else ([], 12)) := by
  have h1 := hv.1
  induction d with
  | zero =>
    intro j hj hc
    rw [List.drop_of_length_le (by omega)] at hc ⊢
    have h := d2_ev id l i v hv r v.f2.length 0 (by omega) (by rw [List.drop_zero]; exact hc)
    rw [List.drop_zero, n0] at h
    exact Ev.step (fun k => by rw [impl_DocBytes.l1, if_neg (by omega)]) h
  | succ d ih =>
    intro j hj hc
    rw [drop_at _ j (by omega), List.all_cons] at hc ⊢
    refine Ev.step (fun k => by rw [impl_DocBytes.l1, if_pos (by omega), if_pos (by omega), if_pos (by omega), rdS_at _ _ (by omega), wnD j (by omega)]) ?_
    by_cases c : ((v.f1[j]).size : Int) > 65536
    · rw [show txtOK v.f1[j] = false from decide_eq_false (by omega), Bool.false_and, Bool.false_and]; exact Ev.pos c (Ev.now _)
    · rw [show txtOK v.f1[j] = true from decide_eq_true (by omega), Bool.true_and] at hc ⊢; exact Ev.neg c (ih (j + 1) (by omega) hc)
theorem d0_ev (id : ByteArray) (l : List S66) (hn : l.length ≤ 1048576) (hl : ∀ v ∈ l, okV v) (r : List Int × Int) (hc : l.all valOK = true → Ev (fun k => (impl_putText.f k ([] : List Int) id).bind fun t249 => ((impl_putInt.f k t249 (l.length : Int)).bind fun t252 => (impl_DocBytes.l3 k t252 l (l.length : Int) 0))) r) (d : Nat) : ∀ i, i + d = l.length → (l.take i).all valOK = true → Ev (fun k => impl_DocBytes.l0 k l (l.length : Int) (i : Int) id l) (if (l.drop i).all valOK then r else ([], 12)) := by
  induction d with
  | zero =>
    intro i hi ht
    rw [List.drop_of_length_le (by omega)]
    rw [List.take_of_length_le (by omega)] at ht
    exact Ev.step (fun k => by rw [impl_DocBytes.l0, if_neg (by omega)]) (hc ht)
  | succ d ih =>
    intro i hi ht
    have hi' : i < l.length := by omega
    have hv := hl _ (List.getElem_mem hi')
    have hc2 := fun h2 : valOK l[i] = true => ih (i + 1) (by omega) (by rw [List.take_succ_eq_append_getElem hi', List.all_append, ht, Bool.true_and]; simp [h2])
    rw [← wnD i (by omega)] at hc2
    rw [drop_at _ i hi', List.all_cons]
    refine Ev.step (fun k => by rw [impl_DocBytes.l0, if_pos (by omega), if_pos (by omega), if_pos (by omega), rd66_at _ _ hi']) ?_
    generalize l[i] = v at hv hc2 ⊢
    have no : valOK v = false → Ev (fun _ => some (([] : List Int), (12 : Int))) (if (valOK v && (l.drop (i + 1)).all valOK) = true then r else ([], 12)) := fun hb => by
      rw [hb, Bool.false_and]; exact Ev.now _
    by_cases c1 : (v.f0.size : Int) > 65536
    · exact Ev.pos c1 (Ev.step (fun k => by rw [impl_DocBytes.j2]) (Ev.pos rfl (no (valOK_f v (by omega)))))
    · refine Ev.neg c1 ?_
      by_cases c2 : (v.f1.length : Int) > 4096
      · exact Ev.pos c2 (Ev.step (fun k => by rw [impl_DocBytes.j2]) (Ev.pos rfl (no (valOK_f v (by omega)))))
      · refine Ev.neg c2 (Ev.step (fun k => by rw [impl_DocBytes.j2]) ?_)
        by_cases c3 : (v.f2.length : Int) > 4096
        · rw [decide_eq_true c3]
          exact Ev.pos rfl (no (valOK_f v (by omega)))
        · rw [decide_eq_false c3]
          refine Ev.neg Bool.false_ne_true ?_
          have ev : valOK v = (v.f1.all txtOK && v.f2.all numOK) := valOK_t v (by omega)
          have h := d1_ev id l i v hv _ v.f1.length 0 (by omega) (by rw [List.drop_zero, ← ev]; exact hc2)
          rw [List.drop_zero, ← ev, n0] at h
          cases hb : valOK v with
          | true => rw [hb] at h; rw [Bool.true_and]; exact h
          | false => rw [hb] at h; rw [Bool.false_and]; exact h
theorem putNI_ev (pre : List Int) (n : Int) (hn : numOK n = true) (h : pre.length ≤ 140737488355000) : Ev (fun k => if n < 0 then impl_putInt.f k pre (wrap64 ((wrap64 ((-2) * n)) - 1)) else impl_putInt.f k pre (wrap64 (2 * n))) (pre ++ nb n) := by
  have hv := nv_ok n hn
  have hb := of_decide_eq_true hn
  by_cases c : n < 0
  · have e1 : wrap64 ((-2) * n) = -2 * n := w64 (by omega) (by omega)
    have e2 : wrap64 (-2 * n - 1) = nv n := by rw [w64 (by omega) (by omega)]; unfold nv; rw [if_pos c]
    rw [e1, e2]
    exact Ev.pos c (putI_ev pre _ h hv.1 (by omega))
  · have e2 : wrap64 (2 * n) = nv n := by rw [w64 (by omega) (by omega)]; unfold nv; rw [if_neg c]
    rw [e2]
    exact Ev.neg c (putI_ev pre _ h hv.1 (by omega))
theorem d5_ev (l : List S66) (i : Nat) (v : S66) (h2 : v.f2.length ≤ 4096) (hN : ∀ n ∈ v.f2, numOK n = true) (r : List Int × Int) (d : Nat) : ∀ j pre, j + d = v.f2.length → pre.length + 9 * d ≤ 140737488350000 →
    Ev (fun k => impl_DocBytes.l3 k (pre ++ (v.f2.drop j).flatMap nb) l (l.length : Int) (wrap64 ((i : Int) + 1))) r → Ev (fun k => impl_DocBytes.l5 k pre l (l.length : Int) (i : Int) v.f2 (v.f2.length : Int) (j : Int)) r := by
  induction d with
  | zero =>
    intro j pre hj hp hc
    rw [List.drop_of_length_le (by omega), List.flatMap_nil, List.append_nil] at hc
    exact Ev.step (fun k => by rw [impl_DocBytes.l5, if_neg (by omega)]) hc
  | succ d ih =>
    intro j pre hj hp hc
    rw [drop_at _ j (by omega), List.flatMap_cons, ← List.append_assoc] at hc
    refine Ev.step (fun k => by rw [impl_DocBytes.l5, if_pos (by omega), if_pos (by omega), if_pos (by omega), rdI_at _ _ (by omega), wnD j (by omega)]) ?_
    have hq := (pb_len (nv (v.f2[j]'(by omega)))).2
    have hp2 := putNI_ev pre _ (hN _ (List.getElem_mem (show j < v.f2.length by omega))) (by omega)
    have hi := ih (j + 1) _ (by omega) (by rw [List.length_append]; unfold nb; omega) hc
    generalize v.f2[j]'(by omega) = n at hp2 hi ⊢
    by_cases c : n < 0
    · refine Ev.pos c (Ev.bind (Ev.congr (fun k => (if_pos c).symm) hp2) hi)
    · refine Ev.neg c (Ev.bind (Ev.congr (fun k => (if_neg c).symm) hp2) hi)
theorem d4_ev (l : List S66) (i : Nat) (v : S66) (h1 : v.f1.length ≤ 4096) (h2 : v.f2.length ≤ 4096) (hT : ∀ t ∈ v.f1, t.size ≤ 65536) (hN : ∀ n ∈ v.f2, numOK n = true) (r : List Int × Int) (d : Nat) : ∀ j pre, j + d = v.f1.length → pre.length + 65545 * d ≤ 140737488300000 →
    Ev (fun k => impl_DocBytes.l3 k (pre ++ ((v.f1.drop j).flatMap tb ++ (pb (v.f2.length : Int) ++ v.f2.flatMap nb))) l (l.length : Int) (wrap64 ((i : Int) + 1))) r → Ev (fun k => impl_DocBytes.l4 k pre l (l.length : Int) (i : Int) v.f1 (v.f1.length : Int) (j : Int) v.f0 v.f1 v.f2) r := by
  induction d with
  | zero =>
    intro j pre hj hp hc
    have hq := pb_len (v.f2.length : Int)
    rw [List.drop_of_length_le (by omega), List.flatMap_nil, List.nil_append, ← List.append_assoc] at hc
    refine Ev.step (fun k => by rw [impl_DocBytes.l4, if_neg (by omega)]) ?_
    refine Ev.bind (putI_ev pre _ (by omega) (by omega) (by omega)) ?_
    exact d5_ev l i v h2 hN r v.f2.length 0 _ (by omega) (by rw [List.length_append]; omega) (by rw [List.drop_zero]; exact hc)
  | succ d ih =>
    intro j pre hj hp hc
    rw [drop_at _ j (by omega), List.flatMap_cons, List.append_assoc, ← List.append_assoc] at hc
    refine Ev.step (fun k => by rw [impl_DocBytes.l4, if_pos (by omega), if_pos (by omega), if_pos (by omega), rdS_at _ _ (by omega), wnD j (by omega)]) ?_
    have ht := hT _ (List.getElem_mem (show j < v.f1.length by omega))
    have hq := tb_len (v.f1[j]'(by omega))
    refine Ev.bind (putTI_ev pre _ (by omega)) ?_
    exact ih (j + 1) _ (by omega) (by rw [List.length_append]; omega) hc
theorem d3_ev (l : List S66) (hn : l.length ≤ 4096) (hl : ∀ v ∈ l, valOK v = true) (d : Nat) : ∀ i pre, i + d = l.length → pre.length + 300000000 * d ≤ 140737480000000 → Ev (fun k => impl_DocBytes.l3 k pre l (l.length : Int) (i : Int)) (pre ++ (l.drop i).flatMap vbytes, 0) := by
  induction d with
  | zero =>
    intro i pre hi hp
    rw [List.drop_of_length_le (by omega), List.flatMap_nil, List.append_nil]
    exact Ev.step (fun k => by rw [impl_DocBytes.l3, if_neg (by omega)]) (Ev.now _)
  | succ d ih =>
    intro i pre hi hp
    have hv := hl _ (List.getElem_mem (show i < l.length by omega))
    rw [drop_at _ i (by omega), List.flatMap_cons]
    refine Ev.step (fun k => by rw [impl_DocBytes.l3, if_pos (by omega), if_pos (by omega), if_pos (by omega), rd66_at _ _ (by omega)]) ?_
    generalize l[i]'(by omega) = v at hv ⊢
    have hvl := vbytes_len v hv
    obtain ⟨g1, g2, g3, g4, g5⟩ := valOK_parts v hv
    have e1 := tb_len v.f0
    have e2 := pb_len (v.f1.length : Int)
    have hc := ih (i + 1) (pre ++ vbytes v) (by omega) (by rw [List.length_append]; omega)
    rw [← wnD i (by omega)] at hc
    refine Ev.bind (putTI_ev pre _ (by omega)) ?_
    refine Ev.bind (putI_ev _ _ (by rw [List.length_append]; omega) (by omega) (by omega)) ?_
    refine d4_ev l i v g2 g3 g4 g5 _ v.f1.length 0 _ (by omega) (by simp only [List.length_append]; omega) ?_
    rw [List.drop_zero]
    have e : pre ++ tb v.f0 ++ pb (v.f1.length : Int) ++ (v.f1.flatMap tb ++ (pb (v.f2.length : Int) ++ v.f2.flatMap nb)) = pre ++ vbytes v := by unfold vbytes; simp only [List.append_assoc]
    rw [e, ← List.append_assoc]
    exact hc
theorem impl_DocBytes_ev (id : ByteArray) (l : List S66) (hn : l.length ≤ 1048576) (hl : ∀ v ∈ l, okV v) : Ev (fun k => impl_DocBytes.f k id l) (docTell id l) := by
  unfold impl_DocBytes.f
  by_cases c1 : (id.size : Int) > 65536
  · have e : docTell id l = ([], 12) := by unfold docTell; rw [fits_f id l (by omega)]; rfl
    rw [e]
    exact Ev.pos c1 (Ev.step (fun k => by rw [impl_DocBytes.j0]) (Ev.pos rfl (Ev.now _)))
  · refine Ev.neg c1 (Ev.step (fun k => by rw [impl_DocBytes.j0]) ?_)
    by_cases c2 : (l.length : Int) > 4096
    · have e : docTell id l = ([], 12) := by unfold docTell; rw [fits_f id l (by omega)]; rfl
      rw [e, decide_eq_true c2]
      exact Ev.pos rfl (Ev.now _)
    · have ef : fits id l = l.all valOK := fits_t id l (by omega)
      rw [decide_eq_false c2]
      refine Ev.neg Bool.false_ne_true ?_
      have h := d0_ev id l hn hl (dbytes id l, 0) (fun hall => ?_) l.length 0 (by omega) (by simp)
      · rw [List.drop_zero, ← ef, n0] at h
        unfold docTell
        exact h
      · have e1 := tb_len id
        have e2 := pb_len (l.length : Int)
        have h0 := putTI_ev [] id (by simp; omega)
        rw [List.nil_append] at h0
        refine Ev.bind h0 (Ev.bind (putI_ev _ _ (by omega) (by omega) (by omega)) ?_)
        have hb := d3_ev l (by omega) (List.all_eq_true.1 hall) l.length 0 (tb id ++ pb (l.length : Int)) (by omega) (by rw [List.length_append]; omega)
        rw [List.drop_zero, List.append_assoc] at hb
        exact hb

/-! ### The law's copies, sizes, marks -/
def cv (x : S97) : S66 := ⟨x.f0, x.f1, x.f2⟩
def okX (x : S97) : Prop := x.f1.length ≤ 1048576 ∧ x.f2.length ≤ 1048576
theorem okV_cv (l : List S97) (h : ∀ x ∈ l, okX x) : ∀ v ∈ l.map cv, okV v := by
  intro v hv
  obtain ⟨x, hx, rfl⟩ := List.mem_map.1 hv
  exact h x hx
theorem rd97_at (xs : List S97) (i : Nat) (h : i < xs.length) : rd_T97 xs (i : Int) = xs[i] := by
  unfold rd_T97
  rw [Int.toNat_natCast, List.getD_eq_getElem?_getD, List.getElem?_eq_getElem h]; rfl
theorem szS_ev (l : List ByteArray) (a : Int) (h0 : 0 ≤ a) (h1 : a ≤ 1048576) (hn : l.length ≤ 9223372036854775807) (hb : ∀ y ∈ l, y.size ≤ 9223372036854775807) : ∃ r : Int, Ev (fun k => laws_szStringS.f k l a) r ∧ r ≤ a ∧ (0 ≤ r → l.length ≤ 1048576) := by
  unfold laws_szStringS.f
  have e0 : wrap64 (a - (l.length : Int)) = a - (l.length : Int) := w64 (by omega) (by omega)
  rw [e0]
  by_cases h : a - (l.length : Int) < 0
  · exact ⟨-1, Ev.pos h (Ev.now _), by omega, by omega⟩
  · have key : ∀ d i (b : Int), i + d = l.length → 0 ≤ b → b ≤ 1048576 → ∃ r : Int, Ev (fun k => laws_szStringS.l0 k l b (i : Int)) r ∧ r ≤ b := by
      intro d
      induction d with
      | zero => intro i b hi h0 h1; exact ⟨b, Ev.step (fun k => by rw [laws_szStringS.l0, if_neg (by omega)]) (Ev.now _), by omega⟩
      | succ d ih =>
        intro i b hi h0 h1
        have hi' : i < l.length := by omega
        have hy := hb _ (List.getElem_mem hi')
        rw [← rdS_at l i hi'] at hy
        have e1 : wrap64 (b - ((rdOf ByteArray.empty l (i : Int)).size : Int)) = b - ((rdOf ByteArray.empty l (i : Int)).size : Int) := w64 (by omega) (by omega)
        by_cases c : b - ((rdOf ByteArray.empty l (i : Int)).size : Int) < 0
        · exact ⟨-1, Ev.step (fun k => by rw [laws_szStringS.l0, e1]) (Ev.pos (by omega) (Ev.pos (by omega) (Ev.pos c (Ev.now _)))), by omega⟩
        · obtain ⟨r, hr, hr2⟩ := ih (i + 1) _ (by omega) (by omega : 0 ≤ b - ((rdOf ByteArray.empty l (i : Int)).size : Int)) (by omega)
          exact ⟨r, Ev.step (fun k => by rw [laws_szStringS.l0, e1, wnD i (by omega)]) (Ev.pos (by omega) (Ev.pos (by omega) (Ev.neg c hr))), by omega⟩
    obtain ⟨r, hr, hr2⟩ := key l.length 0 _ (by omega) (by omega : (0 : Int) ≤ a - (l.length : Int)) (by omega)
    exact ⟨r, Ev.neg h hr, by omega, fun _ => by omega⟩
def wfX (x : S97) : Prop := x.f0.size ≤ 9223372036854775807 ∧ (x.f1.length ≤ 9223372036854775807 ∧ ∀ y ∈ x.f1, y.size ≤ 9223372036854775807) ∧ x.f2.length ≤ 9223372036854775807
theorem szV_ev (x : S97) (hw : wfX x) (a : Int) (h0 : 0 ≤ a) (h1 : a ≤ 1048576) : ∃ r : Int, Ev (fun k => laws_szValue.f k x.f0 x.f1 x.f2 a) r ∧ r ≤ a ∧ (0 ≤ r → okX x) := by
  obtain ⟨w0, w1, w2⟩ := hw
  unfold laws_szValue.f
  have e0 : wrap64 (a - (x.f0.size : Int)) = a - (x.f0.size : Int) := w64 (by omega) (by omega)
  rw [e0]
  by_cases h : a - (x.f0.size : Int) < 0
  · exact ⟨-1, Ev.pos h (Ev.now _), by omega, by omega⟩
  · obtain ⟨r, hr, hr1, hr2⟩ := szS_ev x.f1 (a - (x.f0.size : Int)) (by omega) (by omega) w1.1 w1.2
    by_cases c : r < 0
    · exact ⟨-1, Ev.neg h (Ev.bind hr (Ev.pos c (Ev.now _))), by omega, by omega⟩
    · have e1 : wrap64 (r - (x.f2.length : Int)) = r - (x.f2.length : Int) := w64 (by omega) (by omega)
      by_cases c2 : r - (x.f2.length : Int) < 0
      · exact ⟨-1, Ev.neg h (Ev.bind hr (Ev.neg c (Ev.bind (Ev.ofEq (by unfold laws_szIntS.f; rw [e1, if_pos c2])) (Ev.pos (by omega) (Ev.now _))))), by omega, by omega⟩
      · exact ⟨r - (x.f2.length : Int), Ev.neg h (Ev.bind hr (Ev.neg c (Ev.bind (Ev.ofEq (by unfold laws_szIntS.f; rw [e1, if_neg c2])) (Ev.neg c2 (Ev.now _))))), by omega, fun _ => ⟨hr2 (by omega), by omega⟩⟩
theorem szVS_ev (l : List S97) (hn : l.length ≤ 9223372036854775807) (hw : ∀ x ∈ l, wfX x) (a : Int) (h0 : 0 ≤ a) (h1 : a ≤ 1048576) : ∃ r : Int, Ev (fun k => laws_szValueS.f k l a) r ∧ r ≤ a ∧ (0 ≤ r → l.length ≤ 1048576 ∧ ∀ x ∈ l, okX x) := by
  unfold laws_szValueS.f
  have e0 : wrap64 (a - (l.length : Int)) = a - (l.length : Int) := w64 (by omega) (by omega)
  rw [e0]
  by_cases h : a - (l.length : Int) < 0
  · exact ⟨-1, Ev.pos h (Ev.now _), by omega, by omega⟩
  · have key : ∀ d i (b : Int), i + d = l.length → 0 ≤ b → b ≤ 1048576 → ∃ r : Int, Ev (fun k => laws_szValueS.l0 k l b (i : Int)) r ∧ r ≤ b ∧ (0 ≤ r → ∀ x ∈ l.drop i, okX x) := by
      intro d
      induction d with
      | zero => intro i b hi h0 h1; exact ⟨b, Ev.step (fun k => by rw [laws_szValueS.l0, if_neg (by omega)]) (Ev.now _), by omega, fun _ => by rw [List.drop_of_length_le (by omega)]; simp⟩
      | succ d ih =>
        intro i b hi h0 h1
        have hi' : i < l.length := by omega
        obtain ⟨r, hr, hr1, hr2⟩ := szV_ev l[i] (hw _ (List.getElem_mem hi')) b h0 h1
        rw [← rd97_at l i hi'] at hr
        by_cases c : r < 0
        · exact ⟨-1, Ev.step (fun k => by rw [laws_szValueS.l0]) (Ev.pos (by omega) (Ev.pos (by omega) (Ev.bind hr (Ev.pos c (Ev.now _))))), by omega, by omega⟩
        · obtain ⟨q, hq, hq1, hq2⟩ := ih (i + 1) r (by omega) (by omega) (by omega)
          refine ⟨q, Ev.step (fun k => by rw [laws_szValueS.l0, wnD i (by omega)]) (Ev.pos (by omega) (Ev.pos (by omega) (Ev.bind hr (Ev.neg c hq)))), by omega, fun hz x hx => ?_⟩
          rw [drop_at l i hi'] at hx
          rcases List.mem_cons.1 hx with rfl | hx
          · exact hr2 (by omega)
          · exact hq2 hz x hx
    obtain ⟨r, hr, hr2, hr3⟩ := key l.length 0 _ (by omega) (by omega : (0 : Int) ≤ a - (l.length : Int)) (by omega)
    rw [List.drop_zero] at hr3
    exact ⟨r, Ev.neg h hr, by omega, fun hz => ⟨by omega, hr3 hz⟩⟩
theorem szDoc_ev (id : ByteArray) (l : List S97) (hi : id.size ≤ 9223372036854775807) (hn : l.length ≤ 9223372036854775807) (hw : ∀ x ∈ l, wfX x) (a : Int) (h0 : 0 ≤ a) (h1 : a ≤ 1048576) : ∃ r : Int, Ev (fun k => laws_szDoc.f k id l a) r ∧ r ≤ a ∧ (0 ≤ r → id.size ≤ 1048576 ∧ l.length ≤ 1048576 ∧ ∀ x ∈ l, okX x) := by
  unfold laws_szDoc.f
  have e0 : wrap64 (a - (id.size : Int)) = a - (id.size : Int) := w64 (by omega) (by omega)
  rw [e0]
  by_cases h : a - (id.size : Int) < 0
  · exact ⟨-1, Ev.pos h (Ev.now _), by omega, by omega⟩
  · obtain ⟨r, hr, hr1, hr2⟩ := szVS_ev l hn hw (a - (id.size : Int)) (by omega) (by omega)
    by_cases c : r < 0
    · exact ⟨-1, Ev.neg h (Ev.bind hr (Ev.pos c (Ev.now _))), by omega, by omega⟩
    · exact ⟨r, Ev.neg h (Ev.bind hr (Ev.neg c (Ev.now _))), by omega, fun hz => ⟨by omega, hr2 hz⟩⟩
theorem toS_ev (xs : List ByteArray) (hn : xs.length ≤ 1048576) : Ev (fun k => laws_toStringS.f k xs) xs := by
  unfold laws_toStringS.f
  refine Ev.pos (by omega) (Ev.pos (by omega) ?_)
  rw [Int.toNat_natCast]
  have key : ∀ d i, i + d = xs.length → Ev (fun k => laws_toStringS.l0 k xs (xs.take i ++ List.replicate (xs.length - i) (⟨#[]⟩ : ByteArray)) (i : Int)) xs := by
    intro d
    induction d with
    | zero =>
      intro i hi
      obtain rfl : i = xs.length := by omega
      refine Ev.step (fun k => ?_) (Ev.now _)
      rw [laws_toStringS.l0, if_neg (by omega), Nat.sub_self, List.replicate_zero, List.append_nil, List.take_of_length_le (Nat.le_refl _)]
    | succ d ih =>
      intro i hi
      have hi' : i < xs.length := by omega
      refine Ev.step (fun k => ?_) (ih (i + 1) (by omega))
      rw [laws_toStringS.l0, if_pos (by omega), if_pos (by omega), if_pos (by simp; omega), wnD i (by omega), rdS_at xs i hi', Int.toNat_natCast]
      congr 1
      rw [List.set_append_right i _ (by simp; omega), List.length_take, Nat.min_eq_left (by omega), Nat.sub_self, show xs.length - i = (xs.length - (i + 1)) + 1 by omega, List.replicate_succ, List.set_cons_zero, List.take_succ_eq_append_getElem hi', List.append_assoc]
      rfl
  have h := key xs.length 0 (by omega)
  rw [List.take_zero, List.nil_append, Nat.sub_zero] at h
  exact h
theorem toI_ev (xs : List Int) (hn : xs.length ≤ 1048576) : Ev (fun k => laws_toIntS.f k xs) xs := by
  unfold laws_toIntS.f
  refine Ev.pos (by omega) (Ev.pos (by omega) ?_)
  rw [Int.toNat_natCast]
  exact Ev.from xs.length (fun k hk => toS_all laws_toIntS.l0 (fun _ _ _ _ => rfl) xs (by omega) k hk)
theorem toV_ev (x : S97) (h : okX x) : Ev (fun k => laws_toValue.f k x.f0 x.f1 x.f2) (x.f0, x.f1, x.f2) := by
  unfold laws_toValue.f
  exact Ev.bind (toS_ev _ h.1) (Ev.bind (toI_ev _ h.2) (Ev.now _))
theorem toVS_ev (l : List S97) (hn : l.length ≤ 1048576) (h : ∀ x ∈ l, okX x) : Ev (fun k => laws_toValueS.f k l) (l.map cv) := by
  unfold laws_toValueS.f
  refine Ev.pos (by omega) (Ev.pos (by omega) ?_)
  rw [Int.toNat_natCast]
  have hml : (l.map cv).length = l.length := List.length_map ..
  have key : ∀ d i, i + d = l.length → Ev (fun k => laws_toValueS.l0 k l ((l.map cv).take i ++ List.replicate (l.length - i) z66) (i : Int)) (l.map cv) := by
    intro d
    induction d with
    | zero =>
      intro i hi
      obtain rfl : i = l.length := by omega
      refine Ev.step (fun k => ?_) (Ev.now _)
      rw [laws_toValueS.l0, if_neg (by omega), Nat.sub_self, List.replicate_zero, List.append_nil, List.take_of_length_le (by omega)]
    | succ d ih =>
      intro i hi
      have hi' : i < l.length := by omega
      refine Ev.step (fun k => by rw [laws_toValueS.l0, if_pos (by omega), if_pos (by omega), rd97_at l i hi', wnD i (by omega)]) ?_
      refine Ev.bind (toV_ev _ (h _ (List.getElem_mem hi'))) ?_
      refine Ev.pos (by simp; omega) ?_
      have e : ((l.map cv).take i ++ List.replicate (l.length - i) z66).set (i : Int).toNat ⟨l[i].f0, l[i].f1, l[i].f2⟩ = (l.map cv).take (i + 1) ++ List.replicate (l.length - (i + 1)) z66 := by
        rw [Int.toNat_natCast, List.set_append_right i _ (by simp; omega), List.length_take, Nat.min_eq_left (by omega), Nat.sub_self, show l.length - i = (l.length - (i + 1)) + 1 by omega, List.replicate_succ, List.set_cons_zero, List.take_succ_eq_append_getElem (by omega), List.append_assoc, List.getElem_map]
        rfl
      rw [e]
      exact ih (i + 1) (by omega)
  have h2 := key l.length 0 (by omega)
  rw [List.take_zero, List.nil_append, Nat.sub_zero] at h2
  exact h2
theorem toDoc_ev (id : ByteArray) (l : List S97) (hn : l.length ≤ 1048576) (h : ∀ x ∈ l, okX x) : Ev (fun k => laws_toDoc.f k id l) (id, l.map cv) := by
  unfold laws_toDoc.f
  exact Ev.bind (toVS_ev l hn h) (Ev.now _)
theorem eqI_ev (xs : List Int) (hn : xs.length ≤ 1048576) : Ev (fun k => laws_eqIntS.f k xs xs) true := by
  unfold laws_eqIntS.f
  exact Ev.pos rfl (Ev.from xs.length (fun k hk => eqS_all laws_eqIntS.l0 (fun _ _ _ _ => rfl) xs (by omega) k hk))
theorem eqVS_ev (l : List S66) (hn : l.length ≤ 1048576) (h : ∀ v ∈ l, okV v) : Ev (fun k => laws_eqValueS.f k l l) true := by
  unfold laws_eqValueS.f
  refine Ev.pos rfl ?_
  have key : ∀ d i, i + d = l.length → Ev (fun k => laws_eqValueS.l0 k l l (i : Int)) true := by
    intro d
    induction d with
    | zero => intro i hi; exact Ev.step (fun k => by rw [laws_eqValueS.l0, if_neg (by omega)]) (Ev.now _)
    | succ d ih =>
      intro i hi
      have hi' : i < l.length := by omega
      have hv := h _ (List.getElem_mem hi')
      refine Ev.step (fun k => by rw [laws_eqValueS.l0, if_pos (by omega), if_pos (by omega), if_pos (by omega), rd66_at l i hi', wnD i (by omega)]) ?_
      refine Ev.bind (a := true) ?_ (Ev.pos rfl (ih (i + 1) (by omega)))
      unfold laws_eqValue.f
      exact Ev.pos rfl (Ev.bind (eqSE _ (by have := hv.1; omega)) (Ev.pos rfl (Ev.bind (eqI_ev _ hv.2) (Ev.pos rfl (Ev.now _)))))
  exact key l.length 0 (by omega)
theorem eqDoc_ev (id : ByteArray) (l : List S66) (hn : l.length ≤ 1048576) (h : ∀ v ∈ l, okV v) : Ev (fun k => laws_eqDoc.f k id l id l) true := by
  unfold laws_eqDoc.f
  exact Ev.pos rfl (Ev.bind (eqVS_ev l hn h) (Ev.pos rfl (Ev.now _)))
theorem markI_ev (xs : List Int) (a : Nat) (h : a + xs.length ≤ 9223372036854775806) : ∃ ys : List Int, ys.length = xs.length ∧ Ev (fun k => laws_markIntS.f k xs (a : Int)) (((a + xs.length : Nat) : Int), ys) := by
  obtain ⟨ys, h1, h2, h3⟩ := markS_from (fun x => x) laws_markIntS.l0 (fun _ _ _ _ => rfl) xs.length a (by omega) xs.length (xs.length + 1) 0 xs rfl (by omega) (fun j hj => by omega) (by omega)
  refine ⟨ys, h2, Ev.from xs.length fun k hk => ?_⟩
  obtain ⟨ys', h1', h2', h3'⟩ := markS_from (fun x => x) laws_markIntS.l0 (fun _ _ _ _ => rfl) xs.length a (by omega) xs.length k 0 xs rfl (by omega) (fun j hj => by omega) hk
  have : ys' = ys := get_ext (h2'.trans h2.symm) (fun j hj => by rw [h3' j (by omega), h3 j (by omega)])
  subst this
  exact h1'
theorem markVS_ev (n : Nat) (hn : n ≤ 1048576) (d : Nat) : ∀ (i a : Nat) (ys : List S66), i + d = n → ys.length = n → (∀ v ∈ ys.drop i, okV v) → a + 2097153 * d ≤ 140737488000000 → ∃ (r : Int) (zs : List S66), Ev (fun k => laws_markValueS.l0 k ys (a : Int) (i : Int)) (r, zs) ∧ 0 ≤ r := by
  induction d with
  | zero => intro i a ys hi hl _ _; exact ⟨(a : Int), ys, Ev.step (fun k => by rw [laws_markValueS.l0, if_neg (by omega)]) (Ev.now _), by omega⟩
  | succ d ih =>
    intro i a ys hi hl hv ha
    have hi' : i < ys.length := by omega
    have hv0 := hv ys[i] (by rw [drop_at _ i hi']; exact List.mem_cons_self ..)
    obtain ⟨t, ht⟩ := markText_ev a (by omega)
    obtain ⟨ss, hs1, hs2⟩ := marksSE ys[i].f1 (a + 1) (by have := hv0.1; omega) (by omega)
    obtain ⟨ns, hn1, hn2⟩ := markI_ev ys[i].f2 (a + 1 + ys[i].f1.length) (by have := hv0.1; have := hv0.2; omega)
    obtain ⟨r, zs, hr, hr0⟩ := ih (i + 1) (a + 1 + ys[i].f1.length + ys[i].f2.length) (ys.set i ⟨t, ss, ns⟩) (by omega) (by rw [List.length_set]; exact hl) (fun v hv' => hv v (by
      rw [List.drop_set, if_pos (by omega)] at hv'
      rw [drop_at _ i hi']
      exact List.mem_cons_of_mem _ hv')) (by have := hv0.1; have := hv0.2; omega)
    refine ⟨r, zs, Ev.step (fun k => by rw [laws_markValueS.l0, if_pos (by omega), rd66_at ys i hi', wnD i (by omega), wnD a (by omega), Int.toNat_natCast]) ?_, hr0⟩
    exact Ev.bind ht (Ev.pos (by omega) (Ev.bind hs2 (Ev.bind hn2 hr)))
theorem markDoc_ev (id : ByteArray) (l : List S66) (hn : l.length ≤ 1048576) (h : ∀ v ∈ l, okV v) : ∃ (r : Int) (zs : List S66), Ev (fun k => laws_markDoc.f k id l 1) (r, zs) ∧ 0 ≤ r := by
  obtain ⟨r, zs, hr, hr0⟩ := markVS_ev l.length hn l.length 0 1 l (by omega) rfl (by rw [List.drop_zero]; exact h) (by omega)
  refine ⟨r, zs, ?_, hr0⟩
  unfold laws_markDoc.f laws_markValueS.f
  exact Ev.bind hr (Ev.now _)
theorem eqB_ev (xs : List Int) (hn : xs.length ≤ 140737488351232) : Ev (fun k => laws_eqByteS.f k xs xs) true := by
  unfold laws_eqByteS.f
  exact Ev.pos rfl (Ev.from xs.length (fun k hk => eqS_all laws_eqByteS.l0 (fun _ _ _ _ => rfl) xs (by omega) k hk))
theorem marksB_ev (xs : List Int) (hn : xs.length ≤ 140737488351232) : ∃ ys : List Int, Ev (fun k => laws_markByteS.f k xs 1) (((1 + xs.length : Nat) : Int), ys) ∧ Ev (fun k => laws_heldByteS.f k ys 1) ((1 + xs.length : Nat) : Int) := by
  obtain ⟨ys, h1, h2, h3⟩ := marks (fun x => x % 256) laws_markByteS.l0 laws_heldByteS.l0 (fun _ _ _ _ => rfl) (fun _ _ _ _ => rfl) xs 1 (by omega)
  exact ⟨ys, Ev.from xs.length h2, Ev.from xs.length h3⟩

theorem sum_both (xs : List Int) (hn : xs.length ≤ 1048576) (hb : ∀ x ∈ xs, 0 ≤ x ∧ x ≤ 255) (d : Nat) : ∀ (k i : Nat) (h : Int), i + d = xs.length → d < k → 0 ≤ h → h < 4294967296 →
    ∃ r : Int, spec_Sum32.l0 k xs h i = some r ∧ impl_Sum32.l0 k h xs (xs.length : Int) i = some r ∧ 0 ≤ r ∧ r < 4294967296 := by
  induction d with
  | zero =>
    intro k i h hi hk h0 h1
    obtain ⟨k, rfl⟩ : ∃ m, k = m + 1 := ⟨k - 1, by omega⟩
    refine ⟨h, ?_, ?_, h0, h1⟩
    · rw [spec_Sum32.l0, if_neg (by omega)]
    · rw [impl_Sum32.l0, if_neg (by omega), w64 (by omega) (by omega)]
  | succ d ih =>
    intro k i h hi hk h0 h1
    obtain ⟨k, rfl⟩ : ∃ m, k = m + 1 := ⟨k - 1, by omega⟩
    have hr := hb _ (rd_mem xs i (by omega))
    obtain ⟨c, hc0, hc1, e1, e2⟩ := xor32 h (rd xs i) h0 h1 hr.1 (by omega)
    have e : ((i : Int) + 1) = ((i + 1 : Nat) : Int) := by omega
    obtain ⟨r, hs, hi', hr0, hr1⟩ := ih k (i + 1) ((c * 16777619) % 4294967296) (by omega) (by omega) (by omega) (by omega)
    refine ⟨r, ?_, ?_, hr0, hr1⟩
    · rw [spec_Sum32.l0, if_pos (by omega), if_pos (by omega), w64 (x := rd xs i) (by omega) (by omega), e1, w64 (x := c * 16777619) (by omega) (by omega), w64 (by omega) (by omega), e,
        Int.tmod_eq_emod_of_nonneg (by omega)]
      exact hs
    · rw [impl_Sum32.l0, if_pos (by omega), if_pos (by omega), if_pos (by omega), Int.emod_eq_of_lt hr.1 (by omega), e2, w64 (by omega) (by omega), e]
      exact hi'


/-! ### Records -/
theorem sum_fun' (xs : List Int) (hn : xs.length ≤ 1048576) (d : Nat) : ∀ (k k' i : Nat) (h r r' : Int), i + d = xs.length → d < k → d < k' → spec_Sum32.l0 k xs h (i : Int) = some r → spec_Sum32.l0 k' xs h (i : Int) = some r' → r = r' := by
  induction d with
  | zero =>
    intro k k' i h r r' hi hk hk' e1 e2
    obtain ⟨k, rfl⟩ : ∃ m, k = m + 1 := ⟨k - 1, by omega⟩
    obtain ⟨k', rfl⟩ : ∃ m, k' = m + 1 := ⟨k' - 1, by omega⟩
    rw [spec_Sum32.l0, if_neg (by omega)] at e1 e2
    exact Option.some.inj (e1.symm.trans e2)
  | succ d ih =>
    intro k k' i h r r' hi hk hk' e1 e2
    obtain ⟨k, rfl⟩ : ∃ m, k = m + 1 := ⟨k - 1, by omega⟩
    obtain ⟨k', rfl⟩ : ∃ m, k' = m + 1 := ⟨k' - 1, by omega⟩
    rw [spec_Sum32.l0, if_pos (by omega), if_pos (by omega), wnD i (by omega)] at e1 e2
    exact ih k k' (i + 1) _ r r' (by omega) (by omega) (by omega) e1 e2
theorem sum_ev (xs : List Int) (hb : ∀ x ∈ xs, 0 ≤ x ∧ x ≤ 255) : ∃ r : Int, 0 ≤ r ∧ r < 4294967296 ∧ Ev (fun k => spec_Sum32.f k xs) r ∧ Ev (fun k => impl_Sum32.f k xs) r := by
  by_cases h : (xs.length : Int) > 1048576
  · exact ⟨0, by omega, by omega, Ev.congr (fun k => by rw [spec_Sum32.f, if_pos h]) (Ev.now _), Ev.congr (fun k => by rw [impl_Sum32.f, if_pos h]) (Ev.now _)⟩
  · have hz := fun k (hk : xs.length < k) => sum_both xs (by omega) hb xs.length k 0 2166136261 (by omega) hk (by omega) (by omega)
    obtain ⟨r, e1, e2, h0, h1⟩ := hz (xs.length + 1) (by omega)
    have hm : ∀ k, xs.length < k → spec_Sum32.l0 k xs 2166136261 ((0 : Nat) : Int) = some r ∧ impl_Sum32.l0 k 2166136261 xs (xs.length : Int) ((0 : Nat) : Int) = some r := by
      intro k hk
      obtain ⟨r', g1, g2, _⟩ := hz k hk
      obtain rfl := sum_fun' xs (by omega) xs.length k (xs.length + 1) 0 2166136261 r' r (by omega) hk (by omega) g1 e1
      exact ⟨g1, g2⟩
    refine ⟨r, h0, h1, Ev.from xs.length (fun k hk => ?_), Ev.from xs.length (fun k hk => ?_)⟩
    · rw [spec_Sum32.f, if_neg h]; exact (hm k hk).1
    · rw [impl_Sum32.f, if_neg h]; exact (hm k hk).2
def f4 (r : Int) : List Int := [r / 16777216 % 256, r / 65536 % 256, r / 256 % 256, r % 256]
theorem four_spec (r : Int) (h0 : 0 ≤ r) (h1 : r < 4294967296) : spec_l04Four.f r = some (f4 r) := by
  unfold spec_l04Four.f f4
  have d1 : wrap64 (r / 16777216) = r / 16777216 := w64 (by omega) (by omega)
  have d2 : wrap64 (r / 65536) = r / 65536 := w64 (by omega) (by omega)
  have d3 : wrap64 (r / 256) = r / 256 := w64 (by omega) (by omega)
  simp only [Int.tdiv_eq_ediv_of_nonneg h0]
  rw [d1, d2, d3, Int.tmod_eq_emod_of_nonneg (a := r / 65536) (by omega), Int.tmod_eq_emod_of_nonneg (a := r / 256) (by omega), Int.tmod_eq_emod_of_nonneg h0]
  have e1 : r / 65536 % 256 % 256 = r / 65536 % 256 := by omega
  have e2 : r / 256 % 256 % 256 = r / 256 % 256 := by omega
  have e3 : r % 256 % 256 = r % 256 := by omega
  rw [e1, e2, e3]
theorem four_impl (r : Int) : impl_oFour.f r = some (f4 r) := rfl
theorem pb_bytes (n : Int) (h0 : 0 ≤ n) (h1 : n ≤ 9000000000000000000) : ∀ x ∈ pb n, 0 ≤ x ∧ x ≤ 255 := vb_bytes 8 n h0 (by rw [pow128_8]; omega)
theorem bytesOf_bytes (t : ByteArray) : ∀ x ∈ bytesOf t, 0 ≤ x ∧ x ≤ 255 := by
  intro x hx
  unfold bytesOf at hx
  obtain ⟨b, _, rfl⟩ := List.mem_map.1 hx
  have := UInt8.toNat_lt b
  omega
theorem tb_bytes (t : ByteArray) (h : t.size ≤ 1000000000) : ∀ x ∈ tb t, 0 ≤ x ∧ x ≤ 255 := by
  intro x hx
  unfold tb at hx
  rcases List.mem_append.1 hx with hx | hx
  · exact pb_bytes _ (by omega) (by omega) x hx
  · exact bytesOf_bytes t x hx
theorem vbytes_bytes (v : S66) (h : valOK v = true) : ∀ x ∈ vbytes v, 0 ≤ x ∧ x ≤ 255 := by
  obtain ⟨g1, g2, g3, g4, g5⟩ := valOK_parts v h
  intro x hx
  unfold vbytes at hx
  rcases List.mem_append.1 hx with hx | hx
  · exact tb_bytes _ (by omega) x hx
  rcases List.mem_append.1 hx with hx | hx
  · exact pb_bytes _ (by omega) (by omega) x hx
  rcases List.mem_append.1 hx with hx | hx
  · obtain ⟨t, ht, hx⟩ := List.mem_flatMap.1 hx
    exact tb_bytes t (by have := g4 t ht; omega) x hx
  rcases List.mem_append.1 hx with hx | hx
  · exact pb_bytes _ (by omega) (by omega) x hx
  · obtain ⟨n, hn, hx⟩ := List.mem_flatMap.1 hx
    have := nv_ok n (g5 n hn)
    exact pb_bytes _ this.1 (by omega) x hx
theorem dbytes_bytes (id : ByteArray) (l : List S66) (h : fits id l = true) : ∀ x ∈ dbytes id l, 0 ≤ x ∧ x ≤ 255 := by
  unfold fits at h
  rw [Bool.and_eq_true] at h
  obtain ⟨h1, h2⟩ := of_decide_eq_true h.1
  intro x hx
  unfold dbytes at hx
  rcases List.mem_append.1 hx with hx | hx
  · exact tb_bytes _ (by omega) x hx
  rcases List.mem_append.1 hx with hx | hx
  · exact pb_bytes _ (by omega) (by omega) x hx
  · obtain ⟨v, hv, hx⟩ := List.mem_flatMap.1 hx
    exact vbytes_bytes v (List.all_eq_true.1 h.2 v hv) x hx
/-! ids -/
def chk (b : Int) : Bool := decide (33 ≤ b ∧ b ≤ 126)
def idOK (t : ByteArray) : Bool := (bytesOf t).all chk && decide (1 ≤ t.size ∧ t.size ≤ 30)
theorem bt_at (t : ByteArray) (i : Nat) (h : i < (bytesOf t).length) : bt t (i : Int) = (bytesOf t)[i] := by
  rw [← rd_bytesOf]; exact rd_lt _ i h
theorem id_spec (t : ByteArray) (hn : t.size ≤ 1048576) : Ev (fun k => spec_l06Id.f k t) (idOK t) := by
  have hl := bytesOf_length t
  have key : ∀ d i, i + d = (bytesOf t).length → Ev (fun k => spec_l06Id.l0 k t (i : Int)) (((bytesOf t).drop i).all chk && decide (1 ≤ t.size ∧ t.size ≤ 30)) := by
    intro d
    induction d with
    | zero =>
      intro i hi
      rw [List.drop_of_length_le (by omega)]
      refine Ev.step (fun k => by rw [spec_l06Id.l0, if_neg (by omega)]) ?_
      rw [List.all_nil, Bool.true_and]
      by_cases c : (t.size : Int) ≥ 1
      · refine Ev.pos c ?_
        have e : decide ((t.size : Int) ≤ 30) = decide (1 ≤ t.size ∧ t.size ≤ 30) := by rw [Bool.eq_iff_iff]; simp; omega
        rw [e]; exact Ev.now _
      · rw [show decide (1 ≤ t.size ∧ t.size ≤ 30) = false from decide_eq_false (by omega)]; exact Ev.neg c (Ev.now _)
    | succ d ih =>
      intro i hi
      rw [drop_at _ i (by omega), List.all_cons]
      refine Ev.step (fun k => by rw [spec_l06Id.l0, if_pos (by omega), if_pos (by omega), bt_at t i (by omega), wnD i (by omega)]) ?_
      generalize hb : (bytesOf t)[i]'(by omega) = b
      by_cases c1 : b < 33
      · rw [show chk b = false from decide_eq_false (by omega), Bool.false_and, Bool.false_and]; exact Ev.pos c1 (Ev.now _)
      · by_cases c2 : b > 126
        · rw [show chk b = false from decide_eq_false (by omega), Bool.false_and, Bool.false_and]; exact Ev.neg c1 (Ev.pos c2 (Ev.now _))
        · rw [show chk b = true from decide_eq_true (by omega), Bool.true_and]; exact Ev.neg c1 (Ev.neg c2 (ih (i + 1) (by omega)))
  have h := key (bytesOf t).length 0 (by omega)
  rw [List.drop_zero] at h
  exact h
theorem id_impl (t : ByteArray) (hn : t.size ≤ 1048576) : Ev (fun k => impl_oIdOk.f k t) (idOK t) := by
  have hl := bytesOf_length t
  have key : ∀ d i, i + d = (bytesOf t).length → Ev (fun k => impl_oIdOk.l0 k t (t.size : Int) (i : Int)) (((bytesOf t).drop i).all chk) := by
    intro d
    induction d with
    | zero =>
      intro i hi
      rw [List.drop_of_length_le (by omega)]
      exact Ev.step (f := fun _ => some true) (fun k => by rw [impl_oIdOk.l0, if_neg (by omega)]) (Ev.now _)
    | succ d ih =>
      intro i hi
      rw [drop_at _ i (by omega), List.all_cons]
      refine Ev.step (fun k => by rw [impl_oIdOk.l0, if_pos (by omega), if_pos (by omega), if_pos (by omega), bt_at t i (by omega), wnD i (by omega)]) ?_
      generalize hb : (bytesOf t)[i]'(by omega) = b
      by_cases c1 : b < 33
      · rw [show chk b = false from decide_eq_false (by omega), Bool.false_and]; exact Ev.pos c1 (Ev.now _)
      · by_cases c2 : b > 126
        · rw [show chk b = false from decide_eq_false (by omega), Bool.false_and]; exact Ev.neg c1 (Ev.pos c2 (Ev.now _))
        · rw [show chk b = true from decide_eq_true (by omega), Bool.true_and]; exact Ev.neg c1 (Ev.neg c2 (ih (i + 1) (by omega)))
  unfold impl_oIdOk.f idOK
  by_cases c1 : (t.size : Int) < 1
  · rw [show decide (1 ≤ t.size ∧ t.size ≤ 30) = false from decide_eq_false (by omega), Bool.and_false]
    exact Ev.pos c1 (Ev.step (fun k => by rw [impl_oIdOk.j0]) (Ev.pos rfl (Ev.now _)))
  · by_cases c2 : (t.size : Int) > 30
    · rw [show decide (1 ≤ t.size ∧ t.size ≤ 30) = false from decide_eq_false (by omega), Bool.and_false, decide_eq_true c2]
      exact Ev.neg c1 (Ev.step (fun k => by rw [impl_oIdOk.j0]) (Ev.pos rfl (Ev.now _)))
    · rw [show decide (1 ≤ t.size ∧ t.size ≤ 30) = true from decide_eq_true (by omega), Bool.and_true, decide_eq_false c2]
      have h := key (bytesOf t).length 0 (by omega)
      rw [List.drop_zero, n0] at h
      exact Ev.neg c1 (Ev.step (fun k => by rw [impl_oIdOk.j0]) (Ev.neg Bool.false_ne_true h))
theorem putInt_ev (n : Int) (h0 : 0 ≤ n) (h1 : n ≤ 4611686018427387903) : Ev (fun k => impl_PutInt.f k n) (pb n, 0) := by
  unfold impl_PutInt.f
  refine Ev.bind (Ev.ofEq (r := true) (by unfold impl_within.f; rw [if_pos h0, decide_eq_true h1])) ?_
  refine Ev.pos rfl ?_
  have h := putI_ev [] n (by simp) h0 (by omega)
  rw [List.nil_append] at h
  exact Ev.bind h (Ev.now _)
def outR (all : List Int) : List Int × Int := if (all.length : Int) > 1048576 then ([], 2) else (all, 0)
theorem outR_len (all : List Int) : (outR all).1.length ≤ 1048576 := by
  unfold outR
  split
  · simp
  · simp only; omega
theorem tail_both (part : List Int) (hb : ∀ x ∈ part, 0 ≤ x ∧ x ≤ 255) (hl : part.length ≤ 3000000000000) : ∃ all : List Int,
    Ev (fun k => (spec_l03Put.f k (part.length : Int)).bind fun t218 => (if t218.length + part.length < 140737488355328 then ((some (t218 ++ part : List Int)).bind fun y221 => ((spec_Sum32.f k part).bind fun t224 => ((spec_l04Four.f t224).bind fun t225 => (if y221.length + t225.length < 140737488355328 then (some (y221 ++ t225)) else (none))))) else (none))) all ∧
    Ev (fun k => impl_RecordBytes.j1 k part) (outR all) := by
  obtain ⟨r, h0, h1, hs, hi⟩ := sum_ev part hb
  have hp := pb_len (part.length : Int)
  have e4 : (f4 r).length = 4 := rfl
  have ea : (pb (part.length : Int) ++ part ++ f4 r).length = (pb (part.length : Int)).length + part.length + 4 := by simp only [List.length_append, e4]
  refine ⟨pb (part.length : Int) ++ part ++ f4 r, ?_, ?_⟩
  · refine Ev.bind (putS_ev _ (by omega) (by omega)) (Ev.pos (by omega) ?_)
    refine Ev.bind (Ev.now _) (Ev.bind hs (Ev.bind (Ev.ofEq (four_spec r h0 h1)) (Ev.pos (by rw [List.length_append, e4]; omega) (Ev.now _))))
  · refine Ev.step (fun k => by rw [impl_RecordBytes.j1]) ?_
    refine Ev.bind (putInt_ev _ (by omega) (by omega)) ?_
    have w1 : wrap64 (((pb (part.length : Int)).length : Int) + (part.length : Int)) = ((pb (part.length : Int)).length : Int) + (part.length : Int) := w64 (by omega) (by omega)
    have w2 : wrap64 (((pb (part.length : Int)).length : Int) + (part.length : Int) + 4) = ((pb (part.length : Int)).length : Int) + (part.length : Int) + 4 := w64 (by omega) (by omega)
    simp only
    rw [w1, w2]
    by_cases c : ((pb (part.length : Int)).length : Int) + (part.length : Int) + 4 > 1048576
    · rw [show outR (pb (part.length : Int) ++ part ++ f4 r) = ([], 2) from if_pos (by omega)]; exact Ev.pos c (Ev.now _)
    · rw [show outR (pb (part.length : Int) ++ part ++ f4 r) = (_, 0) from if_neg (by omega)]
      refine Ev.neg c (Ev.pos (by omega) ?_)
      exact Ev.bind (Ev.now _) (Ev.bind hi (Ev.bind (Ev.ofEq (four_impl r)) (Ev.pos (by rw [List.length_append, e4]; omega) (Ev.now _))))
def eD (id : ByteArray) (l : List S66) : Bool := if id.toList = [] then ((l.length : Int) == 0) else false
theorem eD_spec (id : ByteArray) (l : List S66) : spec_l14EmptyDoc.f id l = some (eD id l) := by
  unfold spec_l14EmptyDoc.f eD
  split <;> rfl
theorem eD_impl (id : ByteArray) (l : List S66) : impl_oZeroDoc.f id l = some (eD id l) := by
  unfold impl_oZeroDoc.f eD
  split <;> rfl
theorem rec_both (kind seq : Int) (id did : ByteArray) (l : List S66) (hi : id.size ≤ 1048576) (hdi : did.size ≤ 1048576) (hn : l.length ≤ 1048576) (hv : ∀ v ∈ l, okV v) : ∃ q : List Int × Int,
    Ev (fun k => spec_RecordBytes.f k kind seq id did l) q ∧ Ev (fun k => impl_RecordBytes.f k kind seq id did l) q ∧ q.1.length ≤ 1048576 := by
  have bad : Ev (fun k => spec_l14RecordOK.f k kind seq id did l) false → Ev (fun k => spec_RecordBytes.f k kind seq id did l) (([] : List Int), (1 : Int)) := fun h =>
    Ev.congr (fun k => by rw [spec_RecordBytes.f]) (Ev.bind h (Ev.neg Bool.false_ne_true (Ev.now _)))
  by_cases s1 : seq < 1
  · refine ⟨([], 1), bad ?_, ?_, by simp⟩
    · exact Ev.congr (fun k => by rw [spec_l14RecordOK.f]) (Ev.pos s1 (Ev.step (fun k => by rw [spec_l14RecordOK.j0]) (Ev.pos rfl (Ev.now _))))
    · exact Ev.congr (fun k => by rw [impl_RecordBytes.f]) (Ev.pos s1 (Ev.step (fun k => by rw [impl_RecordBytes.j0]) (Ev.pos rfl (Ev.now _))))
  · by_cases s2 : seq > 4611686018427387903
    · refine ⟨([], 1), bad ?_, ?_, by simp⟩
      · exact Ev.congr (fun k => by rw [spec_l14RecordOK.f, decide_eq_true s2]) (Ev.neg s1 (Ev.step (fun k => by rw [spec_l14RecordOK.j0]) (Ev.pos rfl (Ev.now _))))
      · exact Ev.congr (fun k => by rw [impl_RecordBytes.f, decide_eq_true s2]) (Ev.neg s1 (Ev.step (fun k => by rw [impl_RecordBytes.j0]) (Ev.pos rfl (Ev.now _))))
    · have spOK : ∀ b : Bool, Ev (fun k => if kind = 1 then (if id.toList = ([] : List UInt8) then ((spec_l06Id.f k did).bind fun t123 => (if t123 = true then ((spec_l06Fits.f k did l).bind fun t124 => (some t124)) else (some false))) else (some false)) else (if kind = 2 then ((spec_l06Id.f k id).bind fun t125 => (if t125 = true then ((spec_l14EmptyDoc.f did l).bind fun t126 => (some t126)) else (some false))) else (some false))) b → Ev (fun k => spec_l14RecordOK.f k kind seq id did l) b := fun b h =>
        Ev.congr (fun k => by rw [spec_l14RecordOK.f, decide_eq_false s2]) (Ev.neg s1 (Ev.step (fun k => by rw [spec_l14RecordOK.j0]) (Ev.neg Bool.false_ne_true h)))
      have hp := pb_len seq
      have imOK : ∀ q : List Int × Int, Ev (fun k => if kind = 1 then ((impl_DocBytes.f k did l).bind fun bt368 => (if bt368.2 = 0 then ((impl_oIdOk.f k did).bind fun t372 => (if t372 = true then (if id.toList = ([] : List UInt8) then (if ([kind % 256] ++ pb seq).length + bt368.1.length < 140737488355328 then (impl_RecordBytes.j1 k (([kind % 256] ++ pb seq) ++ bt368.1)) else (none)) else (some (([] : List Int), 1))) else (some (([] : List Int), 1)))) else (some (([] : List Int), 1)))) else (if kind = 2 then ((impl_oIdOk.f k id).bind fun t376 => (if t376 = true then ((impl_oZeroDoc.f did l).bind fun t377 => (if t377 = true then (if ([kind % 256] ++ pb seq).length + id.size < 140737488355328 then (impl_RecordBytes.j1 k (([kind % 256] ++ pb seq) ++ bytesOf id)) else (none)) else (some (([] : List Int), 1)))) else (some (([] : List Int), 1)))) else (some (([] : List Int), 1)))) q → Ev (fun k => impl_RecordBytes.f k kind seq id did l) q := fun q h => by
        refine Ev.congr (fun k => by rw [impl_RecordBytes.f, decide_eq_false s2]) (Ev.neg s1 (Ev.step (fun k => by rw [impl_RecordBytes.j0]) (Ev.neg Bool.false_ne_true ?_)))
        refine Ev.bind (putInt_ev seq (by omega) (by omega)) (Ev.bind (Ev.now _) (Ev.pos (by simp only [List.length_cons, List.length_nil]; omega) ?_))
        exact Ev.bind (Ev.now _) h
      have hf := fits_ev did l hn hv
      have hd := impl_DocBytes_ev did l hn hv
      have is1 := id_spec did hdi
      have ii1 := id_impl did hdi
      have is2 := id_spec id hi
      have ii2 := id_impl id hi
      have hpb := pb_bytes seq (by omega) (by omega)
      have hhead : ∀ x ∈ ([kind % 256] ++ pb seq), 0 ≤ x ∧ x ≤ 255 := fun x hx => by
        rcases List.mem_append.1 hx with hx | hx
        · simp only [List.mem_cons, List.not_mem_nil, or_false] at hx; omega
        · exact hpb x hx
      have no : Ev (fun k => spec_l14RecordOK.f k kind seq id did l) false → Ev (fun k => impl_RecordBytes.f k kind seq id did l) (([] : List Int), (1 : Int)) → ∃ q : List Int × Int, Ev (fun k => spec_RecordBytes.f k kind seq id did l) q ∧ Ev (fun k => impl_RecordBytes.f k kind seq id did l) q ∧ q.1.length ≤ 1048576 := fun h1 h2 => ⟨([], 1), bad h1, h2, by simp⟩
      have yes : ∀ part all, Ev (fun k => spec_l14RecordOK.f k kind seq id did l) true → Ev (fun k => spec_l14Bytes.f k kind seq id did l) all → Ev (fun k => impl_RecordBytes.j1 k part) (outR all) → Ev (fun k => impl_RecordBytes.f k kind seq id did l) (outR all) → ∃ q : List Int × Int, Ev (fun k => spec_RecordBytes.f k kind seq id did l) q ∧ Ev (fun k => impl_RecordBytes.f k kind seq id did l) q ∧ q.1.length ≤ 1048576 := fun part all h1 h2 h3 h4 => by
        refine ⟨outR all, Ev.congr (fun k => by rw [spec_RecordBytes.f]) (Ev.bind h1 (Ev.pos rfl (Ev.bind h2 ?_))), h4, outR_len all⟩
        by_cases c : (all.length : Int) > 1048576
        · rw [show outR all = ([], 2) from if_pos c]; exact Ev.pos c (Ev.now _)
        · rw [show outR all = (all, 0) from if_neg c]; exact Ev.neg c (Ev.now _)
      have spB : ∀ part all, (kind = 1 → part = ([kind % 256] ++ pb seq) ++ dbytes did l ∧ fits did l = true) → (kind ≠ 1 → part = ([kind % 256] ++ pb seq) ++ bytesOf id) →
          Ev (fun k => (spec_l03Put.f k (part.length : Int)).bind fun t218 => (if t218.length + part.length < 140737488355328 then ((some (t218 ++ part : List Int)).bind fun y221 => ((spec_Sum32.f k part).bind fun t224 => ((spec_l04Four.f t224).bind fun t225 => (if y221.length + t225.length < 140737488355328 then (some (y221 ++ t225)) else (none))))) else (none))) all → Ev (fun k => spec_l14Bytes.f k kind seq id did l) all := fun part all k1 k2 h => by
        unfold spec_l14Bytes.f
        refine Ev.bind (Ev.now _) (Ev.bind (putS_ev seq (by omega) (by omega)) (Ev.pos (by simp only [List.length_cons, List.length_nil]; omega) (Ev.bind (Ev.now _) ?_)))
        by_cases c : kind = 1
        · obtain ⟨rfl, hfit⟩ := k1 c
          have hdl := dbytes_len did l hfit
          refine Ev.pos c (Ev.bind (bytes_ev did l hfit) (Ev.pos (by simp only [List.length_append, List.length_cons, List.length_nil]; omega) (Ev.bind (Ev.now _) h)))
        · obtain rfl := k2 c
          exact Ev.neg c (Ev.pos (by simp only [List.length_append, List.length_cons, List.length_nil]; omega) (Ev.bind (Ev.now _) h))
      by_cases c1 : kind = 1
      · by_cases f1 : fits did l = true
        · have e1 : docTell did l = (dbytes did l, 0) := by unfold docTell; rw [if_pos f1]
          rw [e1] at hd
          rw [f1] at hf
          have hdl := dbytes_len did l f1
          by_cases f2 : idOK did = true
          · rw [f2] at is1 ii1
            by_cases f3 : id.toList = ([] : List UInt8)
            · obtain ⟨all, g1, g2⟩ := tail_both (([kind % 256] ++ pb seq) ++ dbytes did l) (fun x hx => by
                rcases List.mem_append.1 hx with hx | hx
                · exact hhead x hx
                · exact dbytes_bytes did l f1 x hx) (by simp only [List.length_append, List.length_cons, List.length_nil]; omega)
              refine yes _ all (spOK true (Ev.pos c1 (Ev.pos f3 (Ev.bind is1 (Ev.pos rfl (Ev.bind hf (Ev.now _))))))) (spB _ all (fun _ => ⟨rfl, f1⟩) (fun h => absurd c1 h) g1) g2 (imOK _ ?_)
              exact Ev.pos c1 (Ev.bind hd (Ev.pos rfl (Ev.bind ii1 (Ev.pos rfl (Ev.pos f3 (Ev.pos (by simp only [List.length_append, List.length_cons, List.length_nil]; omega) g2))))))
            · exact no (spOK false (Ev.pos c1 (Ev.neg f3 (Ev.now _)))) (imOK _ (Ev.pos c1 (Ev.bind hd (Ev.pos rfl (Ev.bind ii1 (Ev.pos rfl (Ev.neg f3 (Ev.now _))))))))
          · have f2' := Bool.eq_false_iff.2 f2
            rw [f2'] at is1 ii1
            refine no (spOK false (Ev.pos c1 ?_)) (imOK _ (Ev.pos c1 (Ev.bind hd (Ev.pos rfl (Ev.bind ii1 (Ev.neg Bool.false_ne_true (Ev.now _)))))))
            by_cases f3 : id.toList = ([] : List UInt8)
            · exact Ev.pos f3 (Ev.bind is1 (Ev.neg Bool.false_ne_true (Ev.now _)))
            · exact Ev.neg f3 (Ev.now _)
        · have f1' := Bool.eq_false_iff.2 f1
          have e1 : docTell did l = ([], 12) := by unfold docTell; rw [if_neg f1]
          rw [e1] at hd
          rw [f1'] at hf
          refine no (spOK false (Ev.pos c1 ?_)) (imOK _ (Ev.pos c1 (Ev.bind hd (Ev.neg (by decide) (Ev.now _)))))
          by_cases f3 : id.toList = ([] : List UInt8)
          · refine Ev.pos f3 (Ev.bind is1 ?_)
            by_cases f2 : idOK did = true
            · exact Ev.pos f2 (Ev.bind hf (Ev.now _))
            · exact Ev.neg f2 (Ev.now _)
          · exact Ev.neg f3 (Ev.now _)
      · by_cases c2 : kind = 2
        · by_cases f2 : idOK id = true
          · rw [f2] at is2 ii2
            by_cases f3 : eD did l = true
            · obtain ⟨all, g1, g2⟩ := tail_both (([kind % 256] ++ pb seq) ++ bytesOf id) (fun x hx => by
                rcases List.mem_append.1 hx with hx | hx
                · exact hhead x hx
                · exact bytesOf_bytes id x hx) (by have := bytesOf_length id; simp only [List.length_append, List.length_cons, List.length_nil]; omega)
              refine yes _ all (spOK true (Ev.neg c1 (Ev.pos c2 (Ev.bind is2 (Ev.pos rfl (Ev.bind (Ev.ofEq (eD_spec did l)) (by rw [f3]; exact Ev.now _))))))) (spB _ all (fun h => absurd h c1) (fun _ => rfl) g1) g2 (imOK _ ?_)
              exact Ev.neg c1 (Ev.pos c2 (Ev.bind ii2 (Ev.pos rfl (Ev.bind (Ev.ofEq (eD_impl did l)) (Ev.pos f3 (Ev.pos (by simp only [List.length_append, List.length_cons, List.length_nil]; omega) g2))))))
            · have f3' := Bool.eq_false_iff.2 f3
              exact no (spOK false (Ev.neg c1 (Ev.pos c2 (Ev.bind is2 (Ev.pos rfl (Ev.bind (Ev.ofEq (eD_spec did l)) (by rw [f3']; exact Ev.now _))))))) (imOK _ (Ev.neg c1 (Ev.pos c2 (Ev.bind ii2 (Ev.pos rfl (Ev.bind (Ev.ofEq (eD_impl did l)) (Ev.neg f3 (Ev.now _))))))))
          · have f2' := Bool.eq_false_iff.2 f2
            rw [f2'] at is2 ii2
            exact no (spOK false (Ev.neg c1 (Ev.pos c2 (Ev.bind is2 (Ev.neg Bool.false_ne_true (Ev.now _)))))) (imOK _ (Ev.neg c1 (Ev.pos c2 (Ev.bind ii2 (Ev.neg Bool.false_ne_true (Ev.now _))))))
        · exact no (spOK false (Ev.neg c1 (Ev.neg c2 (Ev.now _)))) (imOK _ (Ev.neg c1 (Ev.neg c2 (Ev.now _))))

theorem FnExactRecordBytes (kind seq : Int) (id : ByteArray) (did : ByteArray) (l : List S97) (hw : WfFnExactRecordBytes.wfp0 (kind, seq, id, ⟨did, l⟩)) : ∃ k, laws_FnExactRecordBytes.f k kind seq id did l = some true := by
  obtain ⟨_, _, w0, w1, w2, w3⟩ := hw
  unfold maxLen at w0 w1 w2
  replace w0 : id.size ≤ 9223372036854775807 := w0
  replace w1 : did.size ≤ 9223372036854775807 := w1
  replace w2 : l.length ≤ 9223372036854775807 := w2
  have w3' : ∀ x ∈ l, wfX x := fun x hx => by
    obtain ⟨a, ⟨b, c⟩, d, _⟩ := w3 x hx
    unfold maxLen at a b c d
    exact ⟨a, ⟨b, c⟩, d⟩
  refine Ev.rounds (g := fun k => laws_FnExactRecordBytes.f k kind seq id did l) ?_
  unfold laws_FnExactRecordBytes.f
  have hsz : ∃ z : Int, Ev (fun k => laws_szRecord.f k kind seq id did l 1048576) z ∧ (0 ≤ z → id.size ≤ 1048576 ∧ did.size ≤ 1048576 ∧ l.length ≤ 1048576 ∧ ∀ x ∈ l, okX x) := by
    unfold laws_szRecord.f
    have e0 : wrap64 (1048576 - (id.size : Int)) = 1048576 - (id.size : Int) := w64 (by omega) (by omega)
    rw [e0]
    by_cases h : (1048576 : Int) - (id.size : Int) < 0
    · exact ⟨-1, Ev.pos h (Ev.now _), by omega⟩
    · obtain ⟨r, hr, hr1, hr2⟩ := szDoc_ev did l w1 w2 w3' (1048576 - (id.size : Int)) (by omega) (by omega)
      by_cases c : r < 0
      · exact ⟨-1, Ev.neg h (Ev.bind hr (Ev.pos c (Ev.now _))), by omega⟩
      · exact ⟨r, Ev.neg h (Ev.bind hr (Ev.neg c (Ev.now _))), fun hz => ⟨by omega, hr2 hz⟩⟩
  obtain ⟨z, hz, hz'⟩ := hsz
  refine Ev.bind hz ?_
  by_cases h : z < 0
  · exact Ev.pos h (Ev.now _)
  · refine Ev.neg h ?_
    obtain ⟨hid, hdid, hn, hx⟩ := hz' (by omega)
    have hto : Ev (fun k => laws_toRecord.f k kind seq id did l) (kind, seq, id, did, l.map cv) := Ev.congr (fun k => by rw [laws_toRecord.f]) (Ev.bind (toDoc_ev did l hn hx) (Ev.now _))
    have hv := okV_cv l hx
    have hn' : (l.map cv).length ≤ 1048576 := by rw [List.length_map]; exact hn
    obtain ⟨q, hsp, him, hl⟩ := rec_both kind seq id did (l.map cv) hid hdid hn' hv
    have heq : Ev (fun k => laws_eqRecord.f k kind seq id did (l.map cv) kind seq id did (l.map cv)) true := Ev.congr (fun k => by rw [laws_eqRecord.f]) (Ev.pos rfl (Ev.pos rfl (Ev.pos rfl (Ev.bind (eqDoc_ev did (l.map cv) hn' hv) (Ev.pos rfl (Ev.now _))))))
    obtain ⟨m, zs, hm0, hm1⟩ := markDoc_ev did (l.map cv) hn' hv
    have hm : Ev (fun k => laws_markRecord.f k kind seq id did (l.map cv) 1) (m, zs) := Ev.congr (fun k => by rw [laws_markRecord.f]) (Ev.bind hm0 (Ev.now _))
    obtain ⟨r, e⟩ := q
    simp only at hl
    have qB := eqB_ev r (by omega)
    obtain ⟨ys, hmb, hhb⟩ := marksB_ev r (by omega)
    refine Ev.bind hto (Ev.bind hsp (Ev.bind hto (Ev.bind him (Ev.bind qB (Ev.pos rfl ?_)))))
    simp only [bne_self_eq_false]
    refine Ev.step (fun k => by rw [laws_FnExactRecordBytes.j0]) ?_
    refine Ev.neg Bool.false_ne_true ?_
    refine Ev.bind hto (Ev.bind heq (Ev.pos rfl (Ev.bind hm ?_)))
    refine Ev.neg (by simp only; omega) (Ev.bind qB (Ev.pos rfl ?_))
    refine Ev.step (fun k => by rw [laws_FnExactRecordBytes.j1]) ?_
    refine Ev.neg (by simp) ?_
    refine Ev.bind hmb (Ev.bind hhb (Ev.neg (by omega) (Ev.pos rfl ?_)))
    refine Ev.bind hto (Ev.bind him (Ev.bind qB (Ev.pos rfl ?_)))
    refine Ev.step (fun k => by rw [laws_FnExactRecordBytes.j2]) ?_
    refine Ev.neg (by simp) ?_
    exact Ev.bind hhb (Ev.neg (by omega) (Ev.pos rfl (Ev.now _)))

end Go.Proofs.Ytnpdmleglcbobaa.Pure
