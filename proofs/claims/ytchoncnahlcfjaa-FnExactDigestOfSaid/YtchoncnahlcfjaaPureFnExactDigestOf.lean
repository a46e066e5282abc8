/- Whatever the numbers and the step, the program's DigestOf returns what the reference's returns, writes into no argument and hands out memory of its own: the law's function answers true. No condition. -/
import Derived.Test.YtchoncnahlcfjaaXFnExactDigestOfx5
import Derived.Test.YtchoncnahlcfjaaKit
import Derived.Lib.ItoaNum
import Derived.Lib.Bytes
set_option linter.unusedSimpArgs false
set_option linter.unusedVariables false
namespace Go.Proofs.Ytchoncnahlcfjaa.Pure
open Go.RowKit Go.Proofs.Ytchoncnahlcfjaa.XFnExactDigestOf Go.Proofs.YtchoncnahlcfjaaW.PrintWords Go.Proofs.YtchoncnahlcfjaaW.PrintLast Go.Proofs.YtchoncnahlcfjaaW.PrintMore Go.Proofs.Ytchoncnahlcfjaa.Kit

theorem Ev.steps {α : Type} {g f : Nat → Option α} {r : α} (c : Nat) (h : ∀ k, g (k + c) = f k) (k : Ev f r) : Ev g r := by
  obtain ⟨K, hK⟩ := k
  refine ⟨K + c, fun n hn => ?_⟩
  have := h (n - c)
  rw [Nat.sub_add_cancel (by omega)] at this
  rw [this]; exact hK _ (by omega)

theorem Ev.pos {α : Type} {c : Prop} [Decidable c] {f g : Nat → Option α} {r : α} (h : c) (k : Ev f r) : Ev (fun n => if c then f n else g n) r := Ev.congr (fun n => if_pos h) k
theorem Ev.neg {α : Type} {c : Prop} [Decidable c] {f g : Nat → Option α} {r : α} (h : ¬ c) (k : Ev g r) : Ev (fun n => if c then f n else g n) r := Ev.congr (fun n => if_neg h) k
theorem Ev.ofEq {α : Type} {x : Option α} {r : α} (h : x = some r) : Ev (fun _ => x) r := ⟨0, fun _ _ => h⟩
theorem Ev.from {α : Type} {g : Nat → Option α} {r : α} (K : Nat) (h : ∀ k, K < k → g k = some r) : Ev g r := ⟨K + 1, fun k hk => h k (by omega)⟩

def le' (x y : Int) : Bool := decide (x ≤ y)
theorem le_trans' (a b c : Int) (h1 : le' a b = true) (h2 : le' b c = true) : le' a c = true := by
  unfold le' at *
  have := of_decide_eq_true h1
  have := of_decide_eq_true h2
  exact decide_eq_true (by omega)
theorem le_total' (a b : Int) : (le' a b || le' b a) = true := by
  unfold le'
  rw [Bool.or_eq_true]
  rcases Int.le_total a b with h | h
  · exact .inl (decide_eq_true h)
  · exact .inr (decide_eq_true h)
theorem sort_unique {a b : List Int} (ha : a.Pairwise fun x y => le' x y = true) (hb : b.Pairwise fun x y => le' x y = true) (hp : a.Perm b) : a = b :=
  hp.eq_of_pairwise (fun x y _ _ h1 h2 => by
    unfold le' at h1 h2
    have := of_decide_eq_true h1
    have := of_decide_eq_true h2
    omega) ha hb
theorem sorted_ms (l : List Int) : (l.mergeSort le').Pairwise fun x y => le' x y = true := List.pairwise_mergeSort le_trans' le_total' l
theorem sort_halves (l : List Int) (n : Nat) : ((l.take n).mergeSort le').merge ((l.drop n).mergeSort le') le' = l.mergeSort le' := by
  refine sort_unique (List.pairwise_merge le_trans' le_total' _ _ (sorted_ms _) (sorted_ms _)) (sorted_ms _) ?_
  refine (List.merge_perm_append le').trans ?_
  refine ((List.mergeSort_perm _ _).append (List.mergeSort_perm _ _)).trans ?_
  rw [List.take_append_drop]
  exact (List.mergeSort_perm _ _).symm

theorem sort_merge (n : Nat) : ∀ (a b out : List Int), a.length + b.length = n → out.length + n < 17592186044416 → Ev (fun k => spec_l17Sort.l0 k a b out) (out ++ a.merge b le') := by
  induction n with
  | zero =>
    intro a b out h ho
    have ha : a = [] := List.length_eq_zero_iff.1 (by omega)
    have hb : b = [] := List.length_eq_zero_iff.1 (by omega)
    subst ha; subst hb
    refine Ev.step (fun k => by rw [spec_l17Sort.l0]) ?_
    refine Ev.neg (by simp) ?_
    refine Ev.step (fun k => by rw [spec_l17Sort.j1]) ?_
    refine Ev.neg (by simp) ?_
    rw [List.nil_merge, List.append_nil]
    exact Ev.now _
  | succ n ih =>
    intro a b out h ho
    cases a with
    | nil =>
      cases b with
      | nil => simp at h
      | cons y ys =>
        refine Ev.step (fun k => by rw [spec_l17Sort.l0]) ?_
        refine Ev.neg (by simp) ?_
        refine Ev.step (fun k => by rw [spec_l17Sort.j1]) ?_
        refine Ev.pos (by simp) ?_
        refine Ev.neg (by first | (simp; done) | (simp; omega)) ?_
        refine Ev.neg (by simp) ?_
        refine Ev.pos (by first | (simp; done) | (simp; omega)) ?_
        refine Ev.pos (by simp at h; omega) ?_
        refine Ev.pos (by first | (simp; done) | (simp; omega)) ?_
        have := ih [] ys (out ++ [y]) (by simp at h ⊢; omega) (by simp at h ⊢; omega)
        rw [List.nil_merge] at this ⊢
        rw [List.append_assoc] at this
        exact this
    | cons x xs =>
      cases b with
      | nil =>
        refine Ev.step (fun k => by rw [spec_l17Sort.l0]) ?_
        refine Ev.pos (by first | (simp; done) | (simp; omega)) ?_
        refine Ev.step (fun k => by rw [spec_l17Sort.j1]) ?_
        refine Ev.pos rfl ?_
        refine Ev.pos (by simp) ?_
        refine Ev.pos (by first | (simp; done) | (simp; omega)) ?_
        refine Ev.pos (by simp at h; omega) ?_
        refine Ev.pos (by first | (simp; done) | (simp; omega)) ?_
        have := ih xs [] (out ++ [x]) (by simp at h ⊢; omega) (by simp at h ⊢; omega)
        rw [List.merge_right] at this ⊢
        rw [List.append_assoc] at this
        exact this
      | cons y ys =>
        refine Ev.step (fun k => by rw [spec_l17Sort.l0]) ?_
        refine Ev.pos (by first | (simp; done) | (simp; omega)) ?_
        refine Ev.step (fun k => by rw [spec_l17Sort.j1]) ?_
        refine Ev.pos rfl ?_
        refine Ev.neg (by first | (simp; done) | (simp; omega)) ?_
        refine Ev.pos (by first | (simp; done) | (simp; omega)) ?_
        refine Ev.pos (by first | (simp; done) | (simp; omega)) ?_
        refine Ev.pos (by first | (simp; done) | (simp; omega)) ?_
        by_cases c : x ≤ y
        · refine Ev.pos c ?_
          refine Ev.pos (by simp at h; omega) ?_
          refine Ev.pos (by first | (simp; done) | (simp; omega)) ?_
          have := ih xs (y :: ys) (out ++ [x]) (by simp at h ⊢; omega) (by simp at h ⊢; omega)
          rw [List.append_assoc] at this
          rw [List.cons_merge_cons_pos le' _ _ (show le' x y = true from decide_eq_true c)]
          exact this
        · refine Ev.neg c ?_
          refine Ev.pos (by simp at h; omega) ?_
          refine Ev.pos (by first | (simp; done) | (simp; omega)) ?_
          have := ih (x :: xs) ys (out ++ [y]) (by simp at h ⊢; omega) (by simp at h ⊢; omega)
          rw [List.append_assoc] at this
          rw [List.cons_merge_cons_neg le' _ _ (show ¬ le' x y = true from by unfold le'; exact fun h => c (of_decide_eq_true h))]
          exact this

theorem sort_short (l : List Int) (h : l.length < 2) : l.mergeSort le' = l := by
  match l, h with
  | [], _ => simp
  | [x], _ => simp

theorem sort_ev (n : Nat) : ∀ l : List Int, l.length ≤ n → n ≤ 1000000 → Ev (fun k => spec_l17Sort.f k l) (l.mergeSort le') := by
  induction n with
  | zero =>
    intro l hl hn
    refine Ev.step (fun k => by rw [spec_l17Sort.f]) ?_
    refine Ev.pos (by omega) ?_
    refine Ev.bind (Ev.now _) ?_
    refine Ev.pos (by first | (simp; done) | (simp; omega)) ?_
    rw [sort_short l (by omega)]
    exact Ev.now _
  | succ n ih =>
    intro l hl hn
    refine Ev.step (fun k => by rw [spec_l17Sort.f]) ?_
    by_cases c : l.length < 2
    · refine Ev.pos (by omega) ?_
      refine Ev.bind (Ev.now _) ?_
      refine Ev.pos (by first | (simp; done) | (simp; omega)) ?_
      rw [sort_short l c]
      exact Ev.now _
    · have e : wrap64 ((l.length : Int) / 2) = ((l.length / 2 : Nat) : Int) := by rw [w64 (by omega) (by omega)]; omega
      rw [e]
      refine Ev.neg (by omega) ?_
      refine Ev.pos (by omega) ?_
      refine Ev.pos (by omega) ?_
      rw [Int.toNat_natCast]
      refine Ev.bind (ih (l.take (l.length / 2)) (by rw [List.length_take]; omega) (by omega)) ?_
      refine Ev.bind (ih (l.drop (l.length / 2)) (by rw [List.length_drop]; omega) (by omega)) ?_
      have := sort_merge l.length ((l.take (l.length / 2)).mergeSort le') ((l.drop (l.length / 2)).mergeSort le') [] (by first | (simp; done) | (simp; omega)) (by first | (simp; done) | (simp; omega))
      rw [sort_halves, List.nil_append] at this
      exact this


def badNum (x : Int) : Bool := !(decide (-1000000000000 ≤ x) && decide (x ≤ 1000000000000))
def cntPts (l : List Int) (s : Nat) : Nat := (l.length + s - 1) / s
def ptsTo (l : List Int) (s j : Nat) : List Int := (List.range j).map fun i => l.getD (i * s) 0
def digTell (l : List Int) (s : Int) : Int × Int × Int × List Int × Int :=
  if l.length > 4096 then (0, 0, 0, [], 2)
  else if s < 1 ∨ s > 4096 ∨ l.any badNum = true then (0, 0, 0, [], 12)
  else if cntPts l s.toNat > 512 then (0, 0, 0, [], 11)
  else (s, 1, (l.length : Int), ptsTo (l.mergeSort le') s.toNat (cntPts l s.toNat), 0)

theorem ptsTo_length (l : List Int) (s j : Nat) : (ptsTo l s j).length = j := by simp [ptsTo]
theorem ptsTo_succ (l : List Int) (s j : Nat) : ptsTo l s (j + 1) = ptsTo l s j ++ [l.getD (j * s) 0] := by simp [ptsTo, List.range_succ]
theorem lt_cnt (l : List Int) (s j : Nat) (hs : 1 ≤ s) : j < cntPts l s ↔ j * s < l.length := by
  unfold cntPts
  have := Nat.le_div_iff_mul_le (x := j + 1) (y := l.length + s - 1) (k := s) (by omega)
  rw [Nat.succ_mul] at this
  rw [← Nat.succ_le_iff, Nat.succ_eq_add_one, this]
  generalize j * s = m
  omega
theorem cnt_le (l : List Int) (s : Nat) (hs : 1 ≤ s) : cntPts l s ≤ l.length := by
  by_cases h : cntPts l s ≤ l.length
  · exact h
  · have := (lt_cnt l s l.length hs).1 (by omega)
    have h2 : l.length * 1 ≤ l.length * s := Nat.mul_le_mul_left _ hs
    omega

theorem pick_loop (f : Nat → Int → List Int → Int → Int → Int → Int → List Int → Option (Int × Int × Int × List Int × Int))
    (hf : ∀ k x1 x6 x8 a b c o, f (k + 1) x1 x6 x8 a b c o = if x8 < (x6.length : Int) then (if 0 ≤ x8 then (if o.length < 17592186044416 then (f k x1 x6 (wrap64 (x8 + x1)) a b c (o ++ [rd x6 x8])) else (none)) else (none)) else (if (o.length : Int) > 512 then (some (0, 0, 0, ([] : List Int), 11)) else (some (a, b, c, o, 0))))
    (s : Nat) (h1 : 1 ≤ s) (h2 : s ≤ 4096) (l : List Int) (hl : l.length ≤ 4096) (a b c : Int) (d : Nat) : ∀ j : Nat, j + d = cntPts l s →
      Ev (fun k => f k (s : Int) l ((j * s : Nat) : Int) a b c (ptsTo l s j)) (if cntPts l s > 512 then (0, 0, 0, [], 11) else (a, b, c, ptsTo l s (cntPts l s), 0)) := by
  induction d with
  | zero =>
    intro j hj
    have hge : ¬ (j * s < l.length) := fun h => by
      have := (lt_cnt l s j h1).2 h
      omega
    obtain rfl : j = cntPts l s := by omega
    refine Ev.step (fun k => by rw [hf]) ?_
    generalize cntPts l s * s = m at *
    refine Ev.neg (by omega) ?_
    rw [ptsTo_length]
    by_cases g : cntPts l s > 512
    · rw [if_pos g]
      exact Ev.pos (by omega) (Ev.now _)
    · rw [if_neg g]
      exact Ev.neg (by omega) (Ev.now _)
  | succ d ih =>
    intro j hj
    have hlt := (lt_cnt l s j h1).1 (by omega)
    have hc := cnt_le l s h1
    have := ih (j + 1) (by omega)
    rw [Nat.succ_mul, ptsTo_succ] at this
    refine Ev.step (fun k => by rw [hf]) ?_
    generalize j * s = m at *
    refine Ev.pos (by omega) ?_
    refine Ev.pos (by omega) ?_
    refine Ev.pos (by rw [ptsTo_length]; omega) ?_
    have e : wrap64 ((m : Int) + (s : Int)) = ((m + s : Nat) : Int) := by rw [w64 (by omega) (by omega)]; omega
    rw [e, rd_nat]
    exact this

theorem any_drop (l : List Int) (i : Nat) (h : i < l.length) : (l.drop i).any badNum = (badNum (l.getD i 0) || (l.drop (i + 1)).any badNum) := by
  rw [List.drop_eq_getElem_cons h, List.any_cons, List.getD_eq_getElem?_getD, List.getElem?_eq_getElem h]; rfl

theorem cnt_sort (l : List Int) (s : Nat) : cntPts (l.mergeSort le') s = cntPts l s := by unfold cntPts; rw [List.length_mergeSort]

theorem spec_of_range (l : List Int) (s : Int) : Ev (fun k => spec_DigestOf.j0 k l s true) (0, 0, 0, [], 12) := by
  refine Ev.step (fun k => by rw [spec_DigestOf.j0]) ?_
  exact Ev.pos rfl (Ev.now _)
theorem impl_of_range (l : List Int) (s : Int) : Ev (fun k => impl_DigestOf.j0 k l s true) (0, 0, 0, [], 12) := by
  refine Ev.step (fun k => by rw [impl_DigestOf.j0]) ?_
  exact Ev.pos rfl (Ev.now _)

section
variable (l : List Int) (s : Int) (hl : l.length ≤ 4096) (h1 : 1 ≤ s) (h2 : s ≤ 4096)
def goodTell : Int × Int × Int × List Int × Int := if cntPts l s.toNat > 512 then (0, 0, 0, [], 11) else (s, 1, (l.length : Int), ptsTo (l.mergeSort le') s.toNat (cntPts l s.toNat), 0)

include hl h1 h2 in
theorem spec_of_scan (d : Nat) : ∀ i : Nat, i + d = l.length → Ev (fun k => spec_DigestOf.l0 k l s (i : Int)) (if (l.drop i).any badNum = true then (0, 0, 0, [], 12) else goodTell l s) := by
  induction d with
  | zero =>
    intro i hi
    rw [show l.drop i = [] from List.drop_eq_nil_of_le (by omega), List.any_nil, if_neg Bool.false_ne_true]
    refine Ev.step (fun k => by rw [spec_DigestOf.l0]) ?_
    refine Ev.neg (by omega) ?_
    refine Ev.bind (sort_ev 1000000 l (by omega) (by omega)) ?_
    have := pick_loop spec_DigestOf.l1 (fun _ _ _ _ _ _ _ _ => rfl) s.toNat (by omega) (by omega) (l.mergeSort le') (by rw [List.length_mergeSort]; exact hl) s 1 (l.length : Int) (cntPts (l.mergeSort le') s.toNat) 0 (by omega)
    rw [cnt_sort, Nat.zero_mul, Int.toNat_of_nonneg (by omega)] at this
    exact this
  | succ d ih =>
    intro i hi
    rw [any_drop l i (by omega)]
    refine Ev.step (fun k => by rw [spec_DigestOf.l0]) ?_
    refine Ev.pos (by omega) ?_
    refine Ev.pos (by omega) ?_
    rw [rd_nat]
    by_cases a : l.getD i 0 < -1000000000000
    · have : badNum (l.getD i 0) = true := by unfold badNum; rw [decide_eq_false (by omega)]; rfl
      rw [this, Bool.true_or, if_pos rfl]
      exact Ev.pos a (Ev.now _)
    · refine Ev.neg a ?_
      by_cases b : l.getD i 0 > 1000000000000
      · have : badNum (l.getD i 0) = true := by unfold badNum; rw [decide_eq_true (show -1000000000000 ≤ l.getD i 0 by omega), decide_eq_false (by omega)]; rfl
        rw [this, Bool.true_or, if_pos rfl]
        exact Ev.pos b (Ev.now _)
      · have : badNum (l.getD i 0) = false := by unfold badNum; rw [decide_eq_true (show -1000000000000 ≤ l.getD i 0 by omega), decide_eq_true (show l.getD i 0 ≤ 1000000000000 by omega)]; rfl
        rw [this, Bool.false_or]
        have e1 : wrap64 ((i : Int) + 1) = ((i + 1 : Nat) : Int) := by rw [w64 (by omega) (by omega)]; omega
        rw [e1]
        exact Ev.neg b (ih (i + 1) (by omega))
include hl h1 h2 in
theorem impl_of_good (hb : l.any badNum = false) : Ev (fun k => impl_DigestOf.j0 k l s false) (goodTell l s) := by
  refine Ev.step (fun k => by rw [impl_DigestOf.j0]) ?_
  refine Ev.neg Bool.false_ne_true ?_
  refine Ev.bind (Ev.ofEq (show slices_Sorted_int.f l = some (l.mergeSort le') by unfold slices_Sorted_int.f; rw [if_pos (by omega)]; rfl)) ?_
  have := pick_loop impl_DigestOf.l0 (fun _ _ _ _ _ _ _ _ => rfl) s.toNat (by omega) (by omega) (l.mergeSort le') (by rw [List.length_mergeSort]; exact hl) s 1 ((l.mergeSort le').length : Int) (cntPts (l.mergeSort le') s.toNat) 0 (by omega)
  rw [cnt_sort, Nat.zero_mul, Int.toNat_of_nonneg (by omega)] at this
  unfold goodTell
  rw [List.length_mergeSort] at *
  exact this
end

theorem digestOf_eq (l : List Int) (s : Int) : Ev (fun k => spec_DigestOf.f k l s) (digTell l s) ∧ Ev (fun k => impl_DigestOf.f k l s) (digTell l s) := by
  unfold digTell
  by_cases hl : l.length > 4096
  · rw [if_pos hl]
    exact ⟨Ev.pos (by omega) (Ev.now _), Ev.pos (by omega) (Ev.now _)⟩
  · rw [if_neg hl]
    have n1 : ¬ ((l.length : Int) > 4096) := by omega
    by_cases h1 : s < 1
    · rw [if_pos (.inl h1)]
      exact ⟨Ev.neg n1 (Ev.pos h1 (spec_of_range l s)), Ev.neg n1 (Ev.pos h1 (impl_of_range l s))⟩
    · by_cases h2 : s > 4096
      · rw [if_pos (.inr (.inl h2))]
        refine ⟨Ev.neg n1 (Ev.neg h1 ?_), Ev.neg n1 (Ev.neg h1 (Ev.pos h2 (impl_of_range l s)))⟩
        rw [decide_eq_true h2]
        exact spec_of_range l s
      · have sc := spec_of_scan l s (by omega) (by omega) (by omega) l.length 0 (by omega)
        rw [List.drop_zero] at sc
        refine ⟨Ev.neg n1 (Ev.neg h1 ?_), Ev.neg n1 (Ev.neg h1 (Ev.neg h2 ?_))⟩
        · rw [decide_eq_false h2]
          refine Ev.step (fun k => by rw [spec_DigestOf.j0]) ?_
          refine Ev.neg Bool.false_ne_true ?_
          by_cases hb : l.any badNum = true
          · rw [if_pos hb] at sc
            rw [if_pos (.inr (.inr hb))]
            exact sc
          · rw [if_neg hb] at sc
            rw [if_neg (fun h => h.elim h1 fun h => h.elim h2 hb)]
            exact sc
        · refine Ev.bind (Ev.ofEq (show impl_DigestOf_1_contains.f l = some (l.any badNum) from rfl)) ?_
          by_cases hb : l.any badNum = true
          · rw [if_pos (.inr (.inr hb)), hb]
            exact impl_of_range l s
          · rw [if_neg (fun h => h.elim h1 fun h => h.elim h2 hb), Bool.eq_false_iff.2 hb]
            exact impl_of_good l s (by omega) (by omega) (by omega) (Bool.eq_false_iff.2 hb)

theorem digTell_len (l : List Int) (s : Int) : (digTell l s).2.2.2.1.length ≤ 512 := by
  unfold digTell
  split
  · simp
  · split
    · simp
    · split
      · simp
      · rw [ptsTo_length]; omega

theorem toI (xs : List Int) (hn : xs.length ≤ 35184372088832) (k : Nat) (hk : xs.length < k) : laws_toIntS.f k xs = some xs := by
  unfold laws_toIntS.f
  rw [if_pos (by omega), if_pos (by omega), Int.toNat_natCast]
  exact toS_all laws_toIntS.l0 (fun _ _ _ _ => rfl) xs (by omega) k hk
theorem eqI (xs : List Int) (hn : xs.length ≤ 140737488351232) (k : Nat) (hk : xs.length < k) : laws_eqIntS.f k xs xs = some true := by
  unfold laws_eqIntS.f
  rw [if_pos rfl]
  exact eqS_all laws_eqIntS.l0 (fun _ _ _ _ => rfl) xs (by omega) k hk
theorem eqE (s p c : Int) (l : List Int) (h : l.length ≤ 1048576) : Ev (fun k => laws_eqDigest.f k s p c l s p c l) true := by
  unfold laws_eqDigest.f
  refine Ev.pos rfl (Ev.pos rfl (Ev.pos rfl ?_))
  exact Ev.bind (Ev.from l.length (fun k hk => eqI l (by omega) k hk)) (Ev.pos rfl (Ev.now _))
theorem marksE (s p c : Int) (xs : List Int) (a : Nat) (h : xs.length ≤ 1048576) (ha : a ≤ 10000000) : ∃ ys : List Int, ys.length = xs.length ∧ Ev (fun k => laws_markDigest.f k s p c xs (a : Int)) (((a + xs.length : Nat) : Int), ys) ∧ Ev (fun k => laws_heldDigest.f k s p c ys (a : Int)) ((a + xs.length : Nat) : Int) := by
  obtain ⟨ys, h1, h2, h3⟩ := marks (fun x => x) laws_markIntS.l0 laws_heldIntS.l0 (fun _ _ _ _ => rfl) (fun _ _ _ _ => rfl) xs a (by omega)
  refine ⟨ys, h1, ?_, ?_⟩
  · exact Ev.congr (f := fun k => (laws_markIntS.f k xs (a : Int)).bind fun t => some (t.1, t.2)) (fun k => rfl) (Ev.bind (Ev.from xs.length h2) (Ev.now _))
  · refine Ev.congr (f := fun k => (laws_heldIntS.f k ys (a : Int)).bind fun t => if t < 0 then some (-1) else some t) (fun k => rfl) (Ev.bind (Ev.from xs.length h3) ?_)
    exact Ev.neg (by omega) (Ev.now _)
theorem markI (xs : List Int) (a : Nat) (h : xs.length ≤ 1048576) (ha : a ≤ 10000000) : ∃ ys : List Int, ys.length = xs.length ∧ Ev (fun k => laws_markIntS.f k xs (a : Int)) (((a + xs.length : Nat) : Int), ys) := by
  obtain ⟨ys, h1, h2, h3⟩ := marks (fun x => x) laws_markIntS.l0 laws_heldIntS.l0 (fun _ _ _ _ => rfl) (fun _ _ _ _ => rfl) xs a (by omega)
  exact ⟨ys, h1, Ev.from xs.length h2⟩

theorem FnExactDigestOf : laws_FnExactDigestOf.Pure := by
  intro l s _ _ _ _
  refine Ev.rounds (g := fun k => laws_FnExactDigestOf.f k l s) ?_
  by_cases h : (l.length : Int) > 1048576
  · exact Ev.pos h (Ev.now _)
  · refine Ev.neg h ?_
    obtain ⟨hs, hi⟩ := digestOf_eq l s
    have hr := digTell_len l s
    generalize digTell l s = r at hs hi hr
    obtain ⟨rs, rp, rc, rl, e⟩ := r
    simp only at hr
    have tA : Ev (fun k => laws_toIntS.f k l) l := Ev.from l.length (fun k hk => toI l (by omega) k hk)
    have qA : Ev (fun k => laws_eqIntS.f k l l) true := Ev.from l.length (fun k hk => eqI l (by omega) k hk)
    have qR := eqE rs rp rc rl (by omega)
    obtain ⟨ys1, hy1, hm1⟩ := markI l 1 (by omega) (by omega)
    obtain ⟨ys3, hy3, hm3, hh3⟩ := marksE rs rp rc rl 1 (by omega) (by omega)
    refine Ev.bind tA ?_
    refine Ev.bind hs ?_
    refine Ev.bind tA ?_
    refine Ev.bind hi ?_
    refine Ev.bind qR ?_
    refine Ev.pos rfl ?_
    simp only [bne_self_eq_false]
    refine Ev.step (fun k => by rw [laws_FnExactDigestOf.j0]) ?_
    refine Ev.neg Bool.false_ne_true ?_
    refine Ev.bind tA ?_
    refine Ev.bind qA ?_
    refine Ev.pos rfl ?_
    refine Ev.bind hm1 ?_
    refine Ev.neg (by simp only; omega) ?_
    refine Ev.bind qR ?_
    refine Ev.pos rfl ?_
    refine Ev.step (fun k => by rw [laws_FnExactDigestOf.j1]) ?_
    refine Ev.neg (by simp) ?_
    refine Ev.bind hm3 ?_
    refine Ev.bind hh3 ?_
    refine Ev.neg (by omega) ?_
    refine Ev.pos rfl ?_
    refine Ev.bind tA ?_
    refine Ev.bind hi ?_
    refine Ev.bind qR ?_
    refine Ev.pos rfl ?_
    refine Ev.step (fun k => by rw [laws_FnExactDigestOf.j2]) ?_
    refine Ev.neg (by simp) ?_
    refine Ev.bind hh3 ?_
    refine Ev.neg (by omega) ?_
    exact Ev.pos rfl (Ev.now _)

end Go.Proofs.Ytchoncnahlcfjaa.Pure
