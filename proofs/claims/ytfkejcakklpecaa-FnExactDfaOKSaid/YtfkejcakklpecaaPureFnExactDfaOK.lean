/- Whatever the automaton, the program's DfaOK tells what the reference's DfaOK tells and writes into no argument: the law answers true. No condition. -/
import Derived.Test.YtfkejcakklpecaaXFnExactDfaOKx6
import Derived.Test.YtfkejcakklpecaaKit
import Derived.Lib.ItoaNum
import Derived.Lib.Bytes
import Derived.Test.YtfkejcakklpecaaWfFnExactDfaOK
set_option linter.unusedSimpArgs false
set_option linter.unusedVariables false
namespace Go.Proofs.Ytfkejcakklpecaa.Pure
open Go.RowKit Go.Proofs.Ytfkejcakklpecaa.XFnExactDfaOK Go.Proofs.YtfkejcakklpecaaW.PrintWords Go.Proofs.YtfkejcakklpecaaW.PrintLast Go.Proofs.YtfkejcakklpecaaW.PrintMore Go.Proofs.Ytfkejcakklpecaa.Kit

theorem Ev.steps {α : Type} {g f : Nat → Option α} {r : α} (c : Nat) (h : ∀ k, g (k + c) = f k) (k : Ev f r) : Ev g r := by
  obtain ⟨K, hK⟩ := k
  refine ⟨K + c, fun n hn => ?_⟩
  have := h (n - c)
  rw [Nat.sub_add_cancel (by omega)] at this
  rw [this]; exact hK _ (by omega)

theorem Ev.pos {α : Type} {c : Prop} [Decidable c] {f g : Nat → Option α} {r : α} (h : c) (k : Ev f r) : Ev (fun n => if c then f n else g n) r := Ev.congr (fun n => if_pos h) k
theorem Ev.neg {α : Type} {c : Prop} [Decidable c] {f g : Nat → Option α} {r : α} (h : ¬ c) (k : Ev g r) : Ev (fun n => if c then f n else g n) r := Ev.congr (fun n => if_neg h) k
theorem Ev.ofEq {α : Type} {x : Option α} {r : α} (h : x = some r) : Ev (fun _ => x) r := ⟨0, fun _ _ => h⟩
theorem Ev.from {α : Type} {g : Nat → Option α} {r : α} (K : Nat) (h : ∀ k, K < k → g k = some r) : Ev g r := ⟨K + 1, fun k hk => h k (by omega)⟩

/-! ### Copies and equality of rows of whatever kind -/
theorem conv_all {α β : Type} (L : Nat → List α → List β → Int → Option (List β)) (xs : List α) (g : α → β) (z : β)
    (hs : ∀ (i : Nat) (hi : i < xs.length) (ys : List β) (r : List β), ys.length = xs.length → Ev (fun k => L k xs (ys.set i (g xs[i])) ((i + 1 : Nat) : Int)) r → Ev (fun k => L k xs ys (i : Int)) r)
    (he : ∀ ys : List β, Ev (fun k => L k xs ys (xs.length : Int)) ys) : Ev (fun k => L k xs (List.replicate xs.length z) 0) (xs.map g) := by
  have key : ∀ (d i : Nat) (ys : List β), i + d = xs.length → ys.length = xs.length → ys.take i = (xs.map g).take i → Ev (fun k => L k xs ys (i : Int)) (xs.map g) := by
    intro d
    induction d with
    | zero =>
      intro i ys hi hl ht
      have e : ys = xs.map g := by
        rw [← List.take_of_length_le (i := i) (l := ys) (by omega), ht, List.take_of_length_le (by simp; omega)]
      have h := he ys
      rw [show (i : Int) = (xs.length : Int) by omega, ← e]
      exact h
    | succ d ih =>
      intro i ys hi hl ht
      have hlt : i < xs.length := by omega
      refine hs i hlt ys _ hl (ih (i + 1) _ (by omega) (by simp [hl]) ?_)
      rw [List.take_succ_eq_append_getElem (by rw [List.length_set]; omega), List.take_succ_eq_append_getElem (by simp; omega), List.getElem_set_self, List.take_set_of_le (Nat.le_refl _), ht, List.getElem_map]
  have h := key xs.length 0 (List.replicate xs.length z) (by omega) (by simp) (by simp)
  exact h

theorem same_all {α : Type} (L : Nat → List α → List α → Int → Option Bool) (xs : List α)
    (hs : ∀ (i : Nat) (_ : i < xs.length), Ev (fun k => L k xs xs ((i + 1 : Nat) : Int)) true → Ev (fun k => L k xs xs (i : Int)) true)
    (he : Ev (fun k => L k xs xs (xs.length : Int)) true) : Ev (fun k => L k xs xs 0) true := by
  have key : ∀ (d i : Nat), i + d = xs.length → Ev (fun k => L k xs xs (i : Int)) true := by
    intro d
    induction d with
    | zero => intro i hi; rw [show (i : Int) = (xs.length : Int) by omega]; exact he
    | succ d ih => intro i hi; exact hs i (by omega) (ih (i + 1) (by omega))
  exact key xs.length 0 (by omega)

theorem getD_in {α : Type} (xs : List α) (z : α) (i : Nat) (hi : i < xs.length) : xs.getD i z = xs[i] := by
  rw [List.getD_eq_getElem?_getD, List.getElem?_eq_getElem hi]; rfl

theorem n0 : ((0 : Nat) : Int) = 0 := rfl
theorem rd90 (xs : List S90) (i : Nat) (hi : i < xs.length) : rd_T90 xs (i : Int) = xs[i] := by unfold rd_T90; rw [Int.toNat_natCast, getD_in xs _ i hi]
theorem rd88 (xs : List S88) (i : Nat) (hi : i < xs.length) : rd_T88 xs (i : Int) = xs[i] := by unfold rd_T88; rw [Int.toNat_natCast, getD_in xs _ i hi]
theorem rd114 (xs : List S114) (i : Nat) (hi : i < xs.length) : rd_T114 xs (i : Int) = xs[i] := by unfold rd_T114; rw [Int.toNat_natCast, getD_in xs _ i hi]
theorem rd107 (xs : List S107) (i : Nat) (hi : i < xs.length) : rd_T107 xs (i : Int) = xs[i] := by unfold rd_T107; rw [Int.toNat_natCast, getD_in xs _ i hi]
def toArc (x : S114) : S90 := ⟨x.f0, x.f1⟩
def toSt (x : S107) : S88 := ⟨x.f0, x.f1.map toArc, x.f2⟩

theorem toArcs_eq (l : List S114) (h : l.length ≤ 1048576) : Ev (fun k => laws_toDfaArcS.f k l) (l.map toArc) := by
  unfold laws_toDfaArcS.f
  refine Ev.pos (by omega) (Ev.pos (by omega) ?_)
  rw [Int.toNat_natCast]
  refine conv_all laws_toDfaArcS.l0 l toArc z90 (fun i hi ys r hl hr => ?_) (fun ys => ?_)
  · have e1 : Aside0 (wrap64 ((i : Int) + 1) = ((i + 1 : Nat) : Int)) := ⟨by rw [w64 (by omega) (by omega)]; omega⟩
    refine Ev.step (fun k => ?_) hr
    rw [laws_toDfaArcS.l0, if_pos (by omega), if_pos (by omega), rd114 l i hi]
    simp only [laws_toDfaArc.f, Option.bind_some]
    rw [if_pos (by omega), e1.out, Int.toNat_natCast]; rfl
  · refine Ev.step (fun k => ?_) (Ev.now _)
    rw [laws_toDfaArcS.l0, if_neg (by omega)]

theorem toStates_eq (l : List S107) (h : l.length ≤ 1048576) (ha : ∀ x ∈ l, x.f1.length ≤ 1048576) : Ev (fun k => laws_toDfaStateS.f k l) (l.map toSt) := by
  unfold laws_toDfaStateS.f
  refine Ev.pos (by omega) (Ev.pos (by omega) ?_)
  rw [Int.toNat_natCast]
  refine conv_all laws_toDfaStateS.l0 l toSt z88 (fun i hi ys r hl hr => ?_) (fun ys => ?_)
  · have e1 : Aside0 (wrap64 ((i : Int) + 1) = ((i + 1 : Nat) : Int)) := ⟨by rw [w64 (by omega) (by omega)]; omega⟩
    have hst : Ev (fun k => laws_toDfaState.f k l[i].f0 l[i].f1 l[i].f2) (l[i].f0, l[i].f1.map toArc, l[i].f2) := by
      unfold laws_toDfaState.f
      exact Ev.bind (toArcs_eq _ (ha _ (List.getElem_mem hi))) (Ev.now _)
    refine Ev.step (f := fun k => (laws_toDfaState.f k l[i].f0 l[i].f1 l[i].f2).bind fun bt => laws_toDfaStateS.l0 k l (ys.set i (⟨bt.1, bt.2.1, bt.2.2⟩ : S88)) ((i + 1 : Nat) : Int)) (fun k => ?_) (Ev.bind hst hr)
    have c2 : (i : Int) < (ys.length : Int) := by omega
    rw [laws_toDfaStateS.l0, if_pos (by omega), if_pos (by omega), rd107 l i hi, e1.out, Int.toNat_natCast]
    simp only [if_pos c2]
  · refine Ev.step (fun k => ?_) (Ev.now _)
    rw [laws_toDfaStateS.l0, if_neg (by omega)]

theorem toDfa_eq (l : List S107) (h : l.length ≤ 1048576) (ha : ∀ x ∈ l, x.f1.length ≤ 1048576) : Ev (fun k => laws_toDfa.f k l) (l.map toSt) := by
  unfold laws_toDfa.f
  exact Ev.bind (toStates_eq l h ha) (Ev.now _)

theorem eqArcs (l : List S90) (h : l.length ≤ 1048576) : Ev (fun k => laws_eqDfaArcS.f k l l) true := by
  unfold laws_eqDfaArcS.f
  refine Ev.pos rfl (same_all laws_eqDfaArcS.l0 l (fun i hi hr => ?_) ?_)
  · have e1 : Aside0 (wrap64 ((i : Int) + 1) = ((i + 1 : Nat) : Int)) := ⟨by rw [w64 (by omega) (by omega)]; omega⟩
    refine Ev.step (fun k => ?_) hr
    rw [laws_eqDfaArcS.l0, if_pos (by omega), if_pos (by omega), if_pos (by omega), rd90 l i hi, e1.out]
    simp [laws_eqDfaArc.f]
  · refine Ev.step (fun k => ?_) (Ev.now _)
    rw [laws_eqDfaArcS.l0, if_neg (by omega)]

theorem eqStates (l : List S88) (h : l.length ≤ 1048576) (ha : ∀ x ∈ l, x.f1.length ≤ 1048576) : Ev (fun k => laws_eqDfaStateS.f k l l) true := by
  unfold laws_eqDfaStateS.f
  refine Ev.pos rfl (same_all laws_eqDfaStateS.l0 l (fun i hi hr => ?_) ?_)
  · have e1 : Aside0 (wrap64 ((i : Int) + 1) = ((i + 1 : Nat) : Int)) := ⟨by rw [w64 (by omega) (by omega)]; omega⟩
    have hst : Ev (fun k => laws_eqDfaState.f k l[i].f0 l[i].f1 l[i].f2 l[i].f0 l[i].f1 l[i].f2) true := by
      unfold laws_eqDfaState.f
      refine Ev.neg (by simp) ?_
      exact Ev.bind (eqArcs _ (ha _ (List.getElem_mem hi))) (Ev.pos rfl (Ev.pos rfl (Ev.now _)))
    refine Ev.step (f := fun k => (laws_eqDfaState.f k l[i].f0 l[i].f1 l[i].f2 l[i].f0 l[i].f1 l[i].f2).bind fun t => if t = true then laws_eqDfaStateS.l0 k l l ((i + 1 : Nat) : Int) else some false) (fun k => ?_) (Ev.bind hst (Ev.pos rfl hr))
    rw [laws_eqDfaStateS.l0, if_pos (by omega), if_pos (by omega), if_pos (by omega), rd88 l i hi, e1.out]
  · refine Ev.step (fun k => ?_) (Ev.now _)
    rw [laws_eqDfaStateS.l0, if_neg (by omega)]

theorem eqDfa_eq (l : List S88) (h : l.length ≤ 1048576) (ha : ∀ x ∈ l, x.f1.length ≤ 1048576) : Ev (fun k => laws_eqDfa.f k l l) true := by
  unfold laws_eqDfa.f
  exact Ev.bind (eqStates l h ha) (Ev.pos rfl (Ev.now _))

/-! ### The law's measure -/
theorem szArcs (l : List S114) (hl : l.length ≤ 9223372036854775807) (a : Int) (h0 : 0 ≤ a) (h1 : a ≤ 1048576) : ∃ r, laws_szDfaArcS.f l a = some r ∧ (r = -1 ∨ (0 ≤ r ∧ r ≤ a ∧ l.length ≤ 1048576)) := by
  unfold laws_szDfaArcS.f
  have e : Aside0 (wrap64 (a - (l.length : Int)) = a - (l.length : Int)) := ⟨w64 (by omega) (by omega)⟩
  rw [e.out]
  by_cases c : a - (l.length : Int) < 0
  · exact ⟨-1, by rw [if_pos c], .inl rfl⟩
  · exact ⟨_, by rw [if_neg c], .inr ⟨by omega, by omega, by omega⟩⟩

theorem szLoop (x0 : List S107) (hx : x0.length ≤ 1048576) (ha : ∀ x ∈ x0, x.f1.length ≤ 9223372036854775807) (d : Nat) : ∀ (i : Nat) (a : Int), i + d = x0.length → 0 ≤ a → a ≤ 1048576 →
    ∃ r, Ev (fun k => laws_szDfaStateS.l0 k x0 a (i : Int)) r ∧ (r = -1 ∨ (0 ≤ r ∧ ∀ j (hj : j < x0.length), i ≤ j → x0[j].f1.length ≤ 1048576)) := by
  induction d with
  | zero =>
    intro i a hi h0 h1
    refine ⟨a, Ev.step (fun k => ?_) (Ev.now _), .inr ⟨h0, fun j hj hij => by omega⟩⟩
    rw [laws_szDfaStateS.l0, if_neg (by omega)]
  | succ d ih =>
    intro i a hi h0 h1
    have hlt : i < x0.length := by omega
    have e1 : Aside0 (wrap64 ((i : Int) + 1) = ((i + 1 : Nat) : Int)) := ⟨by rw [w64 (by omega) (by omega)]; omega⟩
    obtain ⟨r, hr, hc⟩ := szArcs x0[i].f1 (ha _ (List.getElem_mem hlt)) a h0 h1
    have c1 : (i : Int) < (x0.length : Int) := by omega
    rcases hc with rfl | ⟨q0, q1, q2⟩
    · refine ⟨-1, Ev.step (fun k => ?_) (Ev.now _), .inl rfl⟩
      rw [laws_szDfaStateS.l0, if_pos c1, if_pos (by omega), rd107 x0 i hlt, laws_szDfaState.f, hr]; rfl
    · obtain ⟨r2, h2, h3⟩ := ih (i + 1) r (by omega) q0 (by omega)
      have hn : ¬ r < 0 := by omega
      refine ⟨r2, Ev.step (fun k => ?_) h2, ?_⟩
      · rw [laws_szDfaStateS.l0, if_pos c1, if_pos (by omega), rd107 x0 i hlt, laws_szDfaState.f, hr, Option.bind_some, if_neg hn, Option.bind_some, if_neg hn, e1.out]
      · rcases h3 with h3 | ⟨h3, h4⟩
        · exact .inl h3
        · refine .inr ⟨h3, fun j hj hij => ?_⟩
          by_cases e : j = i
          · subst e; exact q2
          · exact h4 j hj (by omega)

theorem szDfa_eq (l : List S107) (hl : l.length ≤ 9223372036854775807) (ha : ∀ x ∈ l, x.f1.length ≤ 9223372036854775807) :
    Ev (fun k => laws_szDfa.f k l 1048576) (-1) ∨ ∃ r, Ev (fun k => laws_szDfa.f k l 1048576) r ∧ 0 ≤ r ∧ l.length ≤ 1048576 ∧ ∀ x ∈ l, x.f1.length ≤ 1048576 := by
  have e : Aside0 (wrap64 (1048576 - (l.length : Int)) = 1048576 - (l.length : Int)) := ⟨w64 (by omega) (by omega)⟩
  unfold laws_szDfa.f laws_szDfaStateS.f
  rw [e.out]
  by_cases c : 1048576 - (l.length : Int) < 0
  · left
    exact Ev.bind (Ev.pos c (Ev.now _)) (Ev.pos (by decide) (Ev.now _))
  · obtain ⟨r, hr, hc⟩ := szLoop l (by omega) ha l.length 0 (1048576 - (l.length : Int)) (by omega) (by omega) (by omega)
    rw [n0] at hr
    rcases hc with rfl | ⟨q0, q1⟩
    · left
      exact Ev.bind (Ev.neg c hr) (Ev.pos (by decide) (Ev.now _))
    · right
      refine ⟨r, Ev.bind (Ev.neg c hr) (Ev.neg (by omega) (Ev.now _)), q0, by omega, fun x hx => ?_⟩
      obtain ⟨j, hj, rfl⟩ := List.getElem_of_mem hx
      exact q1 j hj (by omega)

/-! ### The automaton's own look -/
def chOK (a : Int) : Bool := decide (0 ≤ a ∧ a ≤ 1114111 ∧ (a < 55296 ∨ 57343 < a))
theorem spec_ch (a : Int) : spec_l01CharOK.f a = some (chOK a) := by
  unfold spec_l01CharOK.f chOK
  repeat' split
  all_goals first | (congr 1; rw [Bool.eq_iff_iff]; simp; omega) | (congr 1; simp; done) | (congr 1; simp; omega)
theorem impl_ch (a : Int) : impl_isChar.f a = some (chOK a) := by
  unfold impl_isChar.f chOK
  repeat' split
  all_goals first | (congr 1; rw [Bool.eq_iff_iff]; simp; omega) | (congr 1; simp; done) | (congr 1; simp; omega)
def lastOf (arcs : List S90) (kk : Nat) : Int := if kk = 0 then -1 else (rd_T90 arcs ((kk - 1 : Nat) : Int)).f0
def arcOK (n : Int) (arcs : List S90) (kk : Nat) : Bool := chOK (rd_T90 arcs (kk : Int)).f0 && decide (lastOf arcs kk < (rd_T90 arcs (kk : Int)).f0 ∧ -1 ≤ (rd_T90 arcs (kk : Int)).f1 ∧ (rd_T90 arcs (kk : Int)).f1 < n)
def arcsFrom (n : Int) (arcs : List S90) : Nat → Nat → Bool
  | 0, _ => true
  | d + 1, kk => arcOK n arcs kk && arcsFrom n arcs d (kk + 1)
theorem ch_nonneg (a : Int) (h : chOK a = true) : 0 ≤ a := by
  simp only [chOK, decide_eq_true_eq] at h; exact h.1

theorem spec_arcs (n : Int) (i : Nat) (hi : i ≤ 1048576) (all : List S88) (f0 : Bool) (arcs : List S90) (f2 : Int) (ha : arcs.length ≤ 1048576) (r : Bool) (hr : Ev (fun k => spec_DfaOK.l0 k n ((i + 1 : Nat) : Int) all) r) (d : Nat) : ∀ kk : Nat, kk + d = arcs.length →
    Ev (fun k => spec_DfaOK.l1 k n (i : Int) (kk : Int) all f0 arcs f2) (arcsFrom n arcs d kk && r) := by
  have e0 : Aside0 (wrap64 ((i : Int) + 1) = ((i + 1 : Nat) : Int)) := ⟨by rw [w64 (by omega) (by omega)]; omega⟩
  induction d with
  | zero =>
    intro kk hk
    rw [arcsFrom, Bool.true_and]
    refine Ev.step (fun k => ?_) hr
    rw [spec_DfaOK.l1, if_neg (by omega), e0.out]
  | succ d ih =>
    intro kk hk
    have e1 : Aside0 (wrap64 ((kk : Int) + 1) = ((kk + 1 : Nat) : Int)) := ⟨by rw [w64 (by omega) (by omega)]; omega⟩
    have c1 : (kk : Int) < (arcs.length : Int) := by omega
    have h' := ih (kk + 1) (by omega)
    rw [arcsFrom, arcOK]
    generalize hx : (rd_T90 arcs (kk : Int)).f0 = x at *
    generalize hy : (rd_T90 arcs (kk : Int)).f1 = y at *
    by_cases c2 : chOK x = true
    · rw [c2, Bool.true_and]
      by_cases c3 : y < -1
      · rw [decide_eq_false (by omega), Bool.false_and, Bool.false_and]
        refine Ev.step (fun k => ?_) (Ev.now _)
        rw [spec_DfaOK.l1, if_pos c1, if_pos (by omega), hx, spec_ch, Option.bind_some, if_pos c2, hy, if_pos c3]
      · by_cases c4 : y ≥ n
        · rw [decide_eq_false (by omega), Bool.false_and, Bool.false_and]
          refine Ev.step (fun k => ?_) (Ev.now _)
          rw [spec_DfaOK.l1, if_pos c1, if_pos (by omega), hx, spec_ch, Option.bind_some, if_pos c2, hy, if_neg c3, if_pos c4]
        · by_cases c5 : kk = 0
          · have hl : lastOf arcs kk = -1 := by unfold lastOf; rw [if_pos c5]
            have := ch_nonneg x c2
            rw [hl, decide_eq_true (by omega), Bool.true_and]
            refine Ev.step (fun k => ?_) h'
            rw [spec_DfaOK.l1, if_pos c1, if_pos (by omega), hx, spec_ch, Option.bind_some, if_pos c2, hy, if_neg c3, if_neg c4, if_neg (by omega), e1.out]
          · have e2 : Aside0 (wrap64 ((kk : Int) - 1) = ((kk - 1 : Nat) : Int)) := ⟨by rw [w64 (by omega) (by omega)]; omega⟩
            have hl : lastOf arcs kk = (rd_T90 arcs ((kk - 1 : Nat) : Int)).f0 := by unfold lastOf; rw [if_neg c5]
            rw [hl]
            generalize hz : (rd_T90 arcs ((kk - 1 : Nat) : Int)).f0 = z at *
            by_cases c6 : x ≤ z
            · rw [decide_eq_false (by omega), Bool.false_and, Bool.false_and]
              refine Ev.step (fun k => ?_) (Ev.now _)
              rw [spec_DfaOK.l1, if_pos c1, if_pos (by omega), hx, spec_ch, Option.bind_some, if_pos c2, hy, if_neg c3, if_neg c4, if_pos (by omega), e2.out, if_pos (by omega), if_pos (by omega), hz, if_pos c6]
            · rw [decide_eq_true (by omega), Bool.true_and]
              refine Ev.step (fun k => ?_) h'
              rw [spec_DfaOK.l1, if_pos c1, if_pos (by omega), hx, spec_ch, Option.bind_some, if_pos c2, hy, if_neg c3, if_neg c4, if_pos (by omega), e2.out, if_pos (by omega), if_pos (by omega), hz, if_neg c6, e1.out]
    · have c2' : chOK x = false := by simpa using c2
      rw [c2', Bool.false_and, Bool.false_and, Bool.false_and]
      refine Ev.step (fun k => ?_) (Ev.now _)
      rw [spec_DfaOK.l1, if_pos c1, if_pos (by omega), hx, spec_ch, Option.bind_some, if_neg c2]

theorem impl_arcs (n : Int) (i : Nat) (hi : i ≤ 1048576) (all : List S88) (m : Int) (arcs : List S90) (ha : arcs.length ≤ 1048576) (r : Bool) (hr : Ev (fun k => impl_DfaOK.l0 k n all m ((i + 1 : Nat) : Int)) r) (d : Nat) : ∀ kk : Nat, kk + d = arcs.length →
    Ev (fun k => impl_DfaOK.l1 k n (lastOf arcs kk) all m (i : Int) arcs (arcs.length : Int) (kk : Int)) (arcsFrom n arcs d kk && r) := by
  have e0 : Aside0 (wrap64 ((i : Int) + 1) = ((i + 1 : Nat) : Int)) := ⟨by rw [w64 (by omega) (by omega)]; omega⟩
  induction d with
  | zero =>
    intro kk hk
    rw [arcsFrom, Bool.true_and]
    refine Ev.step (fun k => ?_) hr
    rw [impl_DfaOK.l1, if_neg (by omega), e0.out]
  | succ d ih =>
    intro kk hk
    have e1 : Aside0 (wrap64 ((kk : Int) + 1) = ((kk + 1 : Nat) : Int)) := ⟨by rw [w64 (by omega) (by omega)]; omega⟩
    have c1 : (kk : Int) < (arcs.length : Int) := by omega
    have h' := ih (kk + 1) (by omega)
    have hl : lastOf arcs (kk + 1) = (rd_T90 arcs (kk : Int)).f0 := by unfold lastOf; rw [if_neg (by omega), show kk + 1 - 1 = kk by omega]
    rw [hl] at h'
    rw [arcsFrom, arcOK]
    generalize lastOf arcs kk = z at *
    generalize hx : (rd_T90 arcs (kk : Int)).f0 = x at *
    generalize hy : (rd_T90 arcs (kk : Int)).f1 = y at *
    by_cases c2 : chOK x = true
    · rw [c2, Bool.true_and]
      by_cases c6 : x ≤ z
      · rw [decide_eq_false (by omega), Bool.false_and, Bool.false_and]
        refine Ev.step (fun k => ?_) (Ev.now _)
        rw [impl_DfaOK.l1, if_pos c1, if_pos (by omega), if_pos c1, hx, impl_ch, Option.bind_some, if_pos c2, if_pos c6]
      · by_cases c3 : y < -1
        · rw [decide_eq_false (by omega), Bool.false_and, Bool.false_and]
          refine Ev.step (fun k => ?_) (Ev.now _)
          rw [impl_DfaOK.l1, if_pos c1, if_pos (by omega), if_pos c1, hx, impl_ch, Option.bind_some, if_pos c2, if_neg c6, hy, if_pos c3]
        · by_cases c4 : y ≥ n
          · rw [decide_eq_false (by omega), Bool.false_and, Bool.false_and]
            refine Ev.step (fun k => ?_) (Ev.now _)
            rw [impl_DfaOK.l1, if_pos c1, if_pos (by omega), if_pos c1, hx, impl_ch, Option.bind_some, if_pos c2, if_neg c6, hy, if_neg c3, if_pos c4]
          · rw [decide_eq_true (by omega), Bool.true_and]
            refine Ev.step (fun k => ?_) h'
            rw [impl_DfaOK.l1, if_pos c1, if_pos (by omega), if_pos c1, hx, impl_ch, Option.bind_some, if_pos c2, if_neg c6, hy, if_neg c3, if_neg c4, e1.out]
    · have c2' : chOK x = false := by simpa using c2
      rw [c2', Bool.false_and, Bool.false_and, Bool.false_and]
      refine Ev.step (fun k => ?_) (Ev.now _)
      rw [impl_DfaOK.l1, if_pos c1, if_pos (by omega), if_pos c1, hx, impl_ch, Option.bind_some, if_neg c2]

def stOK (n : Int) (s : S88) : Bool := decide (-1 ≤ s.f2 ∧ s.f2 < n ∧ s.f1.length ≤ 4096) && arcsFrom n s.f1 s.f1.length 0
def statesFrom (n : Int) (l : List S88) : Nat → Nat → Bool
  | 0, _ => true
  | d + 1, i => stOK n (rd_T88 l (i : Int)) && statesFrom n l d (i + 1)

theorem spec_states (l : List S88) (hl : l.length ≤ 1048576) (d : Nat) : ∀ i : Nat, i + d = l.length → Ev (fun k => spec_DfaOK.l0 k (l.length : Int) (i : Int) l) (statesFrom (l.length : Int) l d i) := by
  induction d with
  | zero =>
    intro i hi
    refine Ev.step (fun k => ?_) (Ev.now _)
    rw [spec_DfaOK.l0, if_neg (by omega)]; rfl
  | succ d ih =>
    intro i hi
    have c1 : (i : Int) < (l.length : Int) := by omega
    have h' := ih (i + 1) (by omega)
    rw [statesFrom, stOK]
    generalize hs : rd_T88 l (i : Int) = s at *
    by_cases c2 : s.f2 < -1
    · rw [decide_eq_false (by omega), Bool.false_and, Bool.false_and]
      refine Ev.steps 2 (fun k => ?_) (Ev.now _)
      rw [spec_DfaOK.l0, if_pos c1, if_pos (by omega), if_pos c1, hs, if_pos c2, spec_DfaOK.j2, if_pos rfl]
    · by_cases c3 : s.f2 ≥ (l.length : Int)
      · rw [decide_eq_false (by omega), Bool.false_and, Bool.false_and]
        refine Ev.steps 2 (fun k => ?_) (Ev.now _)
        rw [spec_DfaOK.l0, if_pos c1, if_pos (by omega), if_pos c1, hs, if_neg c2, if_pos c3, spec_DfaOK.j2, if_pos rfl]
      · by_cases c4 : s.f1.length ≤ 4096
        · rw [decide_eq_true (by omega), Bool.true_and]
          have ha := spec_arcs (l.length : Int) i (by omega) l s.f0 s.f1 s.f2 (by omega) _ h' s.f1.length 0 (by omega)
          rw [n0] at ha
          refine Ev.steps 2 (fun k => ?_) ha
          rw [spec_DfaOK.l0, if_pos c1, if_pos (by omega), if_pos c1, hs, if_neg c2, if_neg c3, decide_eq_false (by omega), spec_DfaOK.j2, if_neg Bool.false_ne_true]
        · rw [decide_eq_false (by omega), Bool.false_and, Bool.false_and]
          refine Ev.steps 2 (fun k => ?_) (Ev.now _)
          rw [spec_DfaOK.l0, if_pos c1, if_pos (by omega), if_pos c1, hs, if_neg c2, if_neg c3, decide_eq_true (by omega), spec_DfaOK.j2, if_pos rfl]

theorem impl_states (l : List S88) (hl : l.length ≤ 1048576) (d : Nat) : ∀ i : Nat, i + d = l.length → Ev (fun k => impl_DfaOK.l0 k (l.length : Int) l (l.length : Int) (i : Int)) (statesFrom (l.length : Int) l d i) := by
  induction d with
  | zero =>
    intro i hi
    refine Ev.step (fun k => ?_) (Ev.now _)
    rw [impl_DfaOK.l0, if_neg (by omega)]; rfl
  | succ d ih =>
    intro i hi
    have c1 : (i : Int) < (l.length : Int) := by omega
    have h' := ih (i + 1) (by omega)
    rw [statesFrom, stOK]
    generalize hs : rd_T88 l (i : Int) = s at *
    by_cases c2 : s.f2 < -1
    · rw [decide_eq_false (by omega), Bool.false_and, Bool.false_and]
      refine Ev.steps 2 (fun k => ?_) (Ev.now _)
      rw [impl_DfaOK.l0, if_pos c1, if_pos (by omega), if_pos c1, hs, if_pos c2, impl_DfaOK.j2, if_pos rfl]
    · by_cases c3 : s.f2 ≥ (l.length : Int)
      · rw [decide_eq_false (by omega), Bool.false_and, Bool.false_and]
        refine Ev.steps 2 (fun k => ?_) (Ev.now _)
        rw [impl_DfaOK.l0, if_pos c1, if_pos (by omega), if_pos c1, hs, if_neg c2, if_pos c3, impl_DfaOK.j2, if_pos rfl]
      · by_cases c4 : s.f1.length ≤ 4096
        · rw [decide_eq_true (by omega), Bool.true_and]
          have ha := impl_arcs (l.length : Int) i (by omega) l (l.length : Int) s.f1 (by omega) _ h' s.f1.length 0 (by omega)
          have hz : lastOf s.f1 0 = -1 := rfl
          rw [n0, hz] at ha
          refine Ev.steps 2 (fun k => ?_) ha
          rw [impl_DfaOK.l0, if_pos c1, if_pos (by omega), if_pos c1, hs, if_neg c2, if_neg c3, decide_eq_false (by omega), impl_DfaOK.j2, if_neg Bool.false_ne_true]
        · rw [decide_eq_false (by omega), Bool.false_and, Bool.false_and]
          refine Ev.steps 2 (fun k => ?_) (Ev.now _)
          rw [impl_DfaOK.l0, if_pos c1, if_pos (by omega), if_pos c1, hs, if_neg c2, if_neg c3, decide_eq_true (by omega), impl_DfaOK.j2, if_pos rfl]

theorem ok_both (l : List S88) (hl : l.length ≤ 1048576) : ∃ b, Ev (fun k => spec_DfaOK.f k l) b ∧ Ev (fun k => impl_DfaOK.f k l) b := by
  have h1 := spec_states l hl l.length 0 (by omega)
  have h2 := impl_states l hl l.length 0 (by omega)
  rw [n0] at h1 h2
  unfold spec_DfaOK.f impl_DfaOK.f
  by_cases c1 : (l.length : Int) < 1
  · refine ⟨false, Ev.pos c1 (Ev.step (fun k => ?_) (Ev.now _)), Ev.pos c1 (Ev.step (fun k => ?_) (Ev.now _))⟩
    · rw [spec_DfaOK.j0, if_pos rfl]
    · rw [impl_DfaOK.j0, if_pos rfl]
  · by_cases c2 : (l.length : Int) > 256
    · refine ⟨false, Ev.neg c1 (Ev.step (fun k => ?_) (Ev.now _)), Ev.neg c1 (Ev.step (fun k => ?_) (Ev.now _))⟩
      · rw [spec_DfaOK.j0, decide_eq_true c2, if_pos rfl]
      · rw [impl_DfaOK.j0, decide_eq_true c2, if_pos rfl]
    · refine ⟨_, Ev.neg c1 (Ev.step (fun k => ?_) h1), Ev.neg c1 (Ev.step (fun k => ?_) h2)⟩
      · rw [spec_DfaOK.j0, decide_eq_false c2, if_neg Bool.false_ne_true]
      · rw [impl_DfaOK.j0, decide_eq_false c2, if_neg Bool.false_ne_true]

theorem FnExactDfaOK (l : List S107) (hw : WfFnExactDfaOK.wfp0 l) : ∃ k, laws_FnExactDfaOK.f k l = some true := by
  obtain ⟨hm, ha⟩ := hw
  unfold maxLen at hm
  have ha' : ∀ x ∈ l, x.f1.length ≤ 9223372036854775807 := fun x hx => by
    have := (ha x hx).2.1.1
    unfold maxLen at this; exact this
  refine Ev.rounds (g := fun k => laws_FnExactDfaOK.f k l) ?_
  unfold laws_FnExactDfaOK.f
  rcases szDfa_eq l hm ha' with h | ⟨r, h, h0, h1, h2⟩
  · exact Ev.bind h (Ev.pos (by decide) (Ev.now _))
  · refine Ev.bind h (Ev.neg (by omega) ?_)
    have hto := toDfa_eq l h1 h2
    have hlen : (l.map toSt).length ≤ 1048576 := by simpa using h1
    have hst : ∀ x ∈ l.map toSt, x.f1.length ≤ 1048576 := by
      intro x hx
      obtain ⟨y, hy, rfl⟩ := List.mem_map.1 hx
      simpa [toSt] using h2 y hy
    obtain ⟨b, hs, hi⟩ := ok_both (l.map toSt) hlen
    refine Ev.bind hto ?_
    refine Ev.bind hs ?_
    refine Ev.bind hto ?_
    refine Ev.bind hi ?_
    refine Ev.neg (by simp) ?_
    refine Ev.bind hto ?_
    refine Ev.bind (eqDfa_eq _ hlen hst) ?_
    exact Ev.pos rfl (Ev.now _)

end Go.Proofs.Ytfkejcakklpecaa.Pure
