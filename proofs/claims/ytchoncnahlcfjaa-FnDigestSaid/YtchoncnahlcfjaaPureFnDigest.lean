/- Of drawn numbers, in one digest and in two that are joined: for every value the count of numbers that are at most it lies between what the program's DigestRank tells, and DigestAt tells one of the numbers: the law answers true on whatever codes. No condition. -/
import Derived.Test.YtchoncnahlcfjaaXFnDigestx11
import Derived.Test.YtchoncnahlcfjaaKit
import Derived.Lib.ItoaNum
import Derived.Lib.Bytes
set_option linter.unusedSimpArgs false
set_option linter.unusedVariables false
namespace Go.Proofs.Ytchoncnahlcfjaa.Pure
open Go.RowKit Go.Proofs.Ytchoncnahlcfjaa.XFnDigest Go.Proofs.YtchoncnahlcfjaaW.PrintWords Go.Proofs.YtchoncnahlcfjaaW.PrintLast Go.Proofs.YtchoncnahlcfjaaW.PrintMore Go.Proofs.Ytchoncnahlcfjaa.Kit

theorem Ev.steps {α : Type} {g f : Nat → Option α} {r : α} (c : Nat) (h : ∀ k, g (k + c) = f k) (k : Ev f r) : Ev g r := by
  obtain ⟨K, hK⟩ := k
  refine ⟨K + c, fun n hn => ?_⟩
  have := h (n - c)
  rw [Nat.sub_add_cancel (by omega)] at this
  rw [this]; exact hK _ (by omega)

theorem Ev.pos {α : Type} {c : Prop} [Decidable c] {f g : Nat → Option α} {r : α} (h : c) (k : Ev f r) : Ev (fun n => if c then f n else g n) r := Ev.congr (fun n => if_pos h) k
theorem Ev.neg {α : Type} {c : Prop} [Decidable c] {f g : Nat → Option α} {r : α} (h : ¬ c) (k : Ev g r) : Ev (fun n => if c then f n else g n) r := Ev.congr (fun n => if_neg h) k
theorem Ev.ofEq {α : Type} {x : Option α} {r : α} (h : x = some r) : Ev (fun _ => x) r := ⟨0, fun _ _ => h⟩
theorem Ev.from {α : Type} {g : Nat → Option α} {r : α} (K : Nat) (h : ∀ k, K < k → g k = some r) : Ev g r := ⟨K + 1, fun k hk => h k (by omega)⟩

theorem n0 : ((0 : Nat) : Int) = 0 := rfl
def ptOK (l : List Int) (i : Nat) : Bool := decide (-1000000000000 ≤ l.getD i 0 ∧ l.getD i 0 ≤ 1000000000000 ∧ (i = 0 ∨ l.getD (i - 1) 0 ≤ l.getD i 0))
def ptsFrom (l : List Int) : Nat → Nat → Bool
  | 0, _ => true
  | d + 1, i => ptOK l i && ptsFrom l d (i + 1)
def dHead (s p c : Int) (n : Nat) : Bool := decide (1 ≤ s ∧ s ≤ 4096 ∧ 1 ≤ p ∧ p ≤ 4096 ∧ 0 ≤ c ∧ c ≤ 4611686018427387903 ∧ n ≤ 512)
def dLeast (s c : Int) : Int := c / s + (if c % s > 0 then 1 else 0)
def dMost (s p c : Int) : Int := (c + p * (s - 1)) / s
def dMid (s p c : Int) (n : Nat) : Bool := decide ((n : Int) ≤ c ∧ dLeast s c ≤ (n : Int) ∧ (n : Int) ≤ dMost s p c)
/-- Whether a digest is one. -/
def dOK (s p c : Int) (l : List Int) : Bool := dHead s p c l.length && (dMid s p c l.length && ptsFrom l l.length 0)

theorem oOk_eq (v : Int) : impl_oOk.f v = some (decide (-1000000000000 ≤ v ∧ v ≤ 1000000000000)) := by
  unfold impl_oOk.f
  split <;> (congr 1; simp; omega)

theorem digest_div (s c : Int) (hs : 1 ≤ s) (hc0 : 0 ≤ c) (hc1 : c ≤ 4611686018427387903) : 0 ≤ c / s ∧ c / s ≤ 4611686018427387903 ∧ wrap64 (Int.tdiv c s) = c / s ∧ Int.tmod c s = c % s := by
  have h0 : 0 ≤ c / s := Int.ediv_nonneg hc0 (by omega)
  have h1 : c / s ≤ c := Int.ediv_le_self _ hc0
  refine ⟨h0, by omega, ?_, Int.tmod_eq_emod_of_nonneg hc0⟩
  rw [Int.tdiv_eq_ediv_of_nonneg hc0]
  generalize c / s = q at *
  exact w64 (by omega) (by omega)

theorem digest_most (s p c : Int) (hs : 1 ≤ s) (hs1 : s ≤ 4096) (hp0 : 1 ≤ p) (hp1 : p ≤ 4096) (hc0 : 0 ≤ c) (hc1 : c ≤ 4611686018427387903) :
    wrap64 (Int.tdiv (wrap64 (c + wrap64 (p * wrap64 (s - 1)))) s) = dMost s p c := by
  have e1 : wrap64 (s - 1) = s - 1 := w64 (by omega) (by omega)
  rw [e1]
  have hm : p * (s - 1) ≤ 4096 * 4095 := Int.mul_le_mul hp1 (by omega) (by omega) (by decide)
  have hm0 : 0 ≤ p * (s - 1) := Int.mul_nonneg (by omega) (by omega)
  unfold dMost
  clear e1
  generalize p * (s - 1) = m at *
  rw [w64 (x := m) (by omega) (by omega), w64 (x := c + m) (by omega) (by omega)]
  have h0 : 0 ≤ (c + m) / s := Int.ediv_nonneg (by omega) (by omega)
  have h1 : (c + m) / s ≤ c + m := Int.ediv_le_self _ (by omega)
  rw [Int.tdiv_eq_ediv_of_nonneg (by omega)]
  generalize (c + m) / s = q at *
  exact w64 (by omega) (by omega)

theorem spec_pts (s p c : Int) (l : List Int) (hl : l.length ≤ 512) (d : Nat) : ∀ i : Nat, i + d = l.length → Ev (fun k => spec_DigestOK.l0 k (l.length : Int) (i : Int) s p c l) (ptsFrom l d i) := by
  induction d with
  | zero =>
    intro i hi
    refine Ev.step (fun k => ?_) (Ev.now _)
    rw [spec_DigestOK.l0, if_neg (by omega), ptsFrom]
  | succ d ih =>
    intro i hi
    have c1 : (i : Int) < (l.length : Int) := by omega
    have e1 : Aside0 (wrap64 ((i : Int) + 1) = ((i + 1 : Nat) : Int)) := ⟨by rw [w64 (by omega) (by omega)]; omega⟩
    rw [ptsFrom]
    by_cases a1 : l.getD i 0 < -1000000000000
    · have : ptOK l i = false := by unfold ptOK; exact decide_eq_false (by omega)
      rw [this, Bool.false_and]
      refine Ev.step (fun k => ?_) (Ev.now _)
      rw [spec_DigestOK.l0, if_pos c1, if_pos (Int.natCast_nonneg _), if_pos c1, rd_nat, if_pos a1]
    · by_cases a2 : l.getD i 0 > 1000000000000
      · have : ptOK l i = false := by unfold ptOK; exact decide_eq_false (by omega)
        rw [this, Bool.false_and]
        refine Ev.step (fun k => ?_) (Ev.now _)
        rw [spec_DigestOK.l0, if_pos c1, if_pos (Int.natCast_nonneg _), if_pos c1, rd_nat, if_neg a1, if_pos a2]
      · by_cases hz : i = 0
        · have : ptOK l i = true := by unfold ptOK; exact decide_eq_true (by omega)
          rw [this, Bool.true_and]
          have c2 : ¬ ((i : Int) > 0) := by omega
          refine Ev.step (fun k => ?_) (ih (i + 1) (by omega))
          rw [spec_DigestOK.l0, if_pos c1, if_pos (Int.natCast_nonneg _), if_pos c1, rd_nat, if_neg a1, if_neg a2, if_neg c2, e1.out]
        · have c2 : (i : Int) > 0 := by omega
          have c3 : ((i - 1 : Nat) : Int) < (l.length : Int) := by omega
          have e2 : Aside0 (wrap64 ((i : Int) - 1) = ((i - 1 : Nat) : Int)) := ⟨by rw [w64 (by omega) (by omega)]; omega⟩
          by_cases a3 : l.getD i 0 < l.getD (i - 1) 0
          · have : ptOK l i = false := by unfold ptOK; exact decide_eq_false (by omega)
            rw [this, Bool.false_and]
            refine Ev.step (fun k => ?_) (Ev.now _)
            rw [spec_DigestOK.l0, if_pos c1, if_pos (Int.natCast_nonneg _), if_pos c1, rd_nat, if_neg a1, if_neg a2, if_pos c2, e2.out, if_pos (Int.natCast_nonneg _), if_pos c3, rd_nat, if_pos a3]
          · have : ptOK l i = true := by unfold ptOK; exact decide_eq_true (by omega)
            rw [this, Bool.true_and]
            refine Ev.step (fun k => ?_) (ih (i + 1) (by omega))
            rw [spec_DigestOK.l0, if_pos c1, if_pos (Int.natCast_nonneg _), if_pos c1, rd_nat, if_neg a1, if_neg a2, if_pos c2, e2.out, if_pos (Int.natCast_nonneg _), if_pos c3, rd_nat, if_neg a3, e1.out]

theorem num_eq (v : Int) : spec_l03Num.f v = some (decide (0 ≤ v ∧ v ≤ 4611686018427387903)) := by
  unfold spec_l03Num.f
  split <;> (congr 1; simp; omega)

theorem spec_DigestOK_eq (s p c : Int) (l : List Int) : Ev (fun k => spec_DigestOK.f k s p c l) (dOK s p c l) := by
  have bad : ∀ x : Bool, x = true → Ev (fun k => spec_DigestOK.j0 k (l.length : Int) x s p c l) false := by
    intro x hx
    refine Ev.step (fun k => ?_) (Ev.now _)
    rw [spec_DigestOK.j0, if_pos hx]
  by_cases hh : dHead s p c l.length = true
  · obtain ⟨h1, h2, h3, h4, h5, h6, h7⟩ := of_decide_eq_true hh
    unfold dOK
    rw [hh, Bool.true_and]
    obtain ⟨q0, q1, q2, q3⟩ := digest_div s c h1 h5 h6
    have hmost := Aside0.mk (digest_most s p c h1 h2 h3 h4 h5 h6)
    have q2' := Aside0.mk q2
    have q3' := Aside0.mk q3
    clear q2 q3
    have hpts := spec_pts s p c l h7 l.length 0 (by omega)
    rw [n0] at hpts
    have hle : Aside0 (wrap64 (c / s + 1) = c / s + 1) := ⟨w64 (by omega) (by omega)⟩
    refine Ev.congr (f := fun k => spec_DigestOK.j0 k (l.length : Int) (decide ((l.length : Int) > c)) s p c l) (fun k => ?_) ?_
    · unfold spec_DigestOK.f
      rw [if_neg (by omega), if_neg (by omega), if_neg (by omega), if_neg (by omega), num_eq, decide_eq_true ⟨h5, h6⟩, Option.bind_some, if_pos rfl, if_neg (by omega)]
    · by_cases hc : (l.length : Int) > c
      · have : dMid s p c l.length = false := by unfold dMid; exact decide_eq_false (by omega)
        rw [this, Bool.false_and]
        exact bad _ (decide_eq_true hc)
      · rw [decide_eq_false hc]
        have hs0 : ¬ (s = 0) := by omega
        have step2 : Ev (fun k => spec_DigestOK.j1 k (l.length : Int) (dLeast s c) s p c l) (dMid s p c l.length && ptsFrom l l.length 0) := by
          by_cases h8 : (l.length : Int) < dLeast s c
          · have : dMid s p c l.length = false := by unfold dMid; exact decide_eq_false (by omega)
            rw [this, Bool.false_and]
            refine Ev.steps 2 (fun k => ?_) (Ev.now _)
            rw [spec_DigestOK.j1, if_pos h8, spec_DigestOK.j2, if_pos rfl]
          · by_cases h9 : (l.length : Int) > dMost s p c
            · have : dMid s p c l.length = false := by unfold dMid; exact decide_eq_false (by omega)
              rw [this, Bool.false_and]
              refine Ev.steps 2 (fun k => ?_) (Ev.now _)
              rw [spec_DigestOK.j1, if_neg h8, if_neg hs0, hmost.out, spec_DigestOK.j2, if_pos (decide_eq_true h9)]
            · have : dMid s p c l.length = true := by unfold dMid; exact decide_eq_true (by omega)
              rw [this, Bool.true_and]
              refine Ev.steps 2 (fun k => ?_) hpts
              rw [spec_DigestOK.j1, if_neg h8, if_neg hs0, hmost.out, decide_eq_false h9, spec_DigestOK.j2, if_neg Bool.false_ne_true]
        refine Ev.step (fun k => ?_) step2
        rw [spec_DigestOK.j0, if_neg Bool.false_ne_true, if_neg hs0, q2'.out, q3'.out, hle.out]
        unfold dLeast
        by_cases hr : c % s > 0
        · rw [if_pos hr, if_pos hr]
        · rw [if_neg hr, if_neg hr, Int.add_zero]
  · have hf : dOK s p c l = false := by unfold dOK; rw [Bool.eq_false_iff.2 hh, Bool.false_and]
    rw [hf]
    have hh' : ¬ (1 ≤ s ∧ s ≤ 4096 ∧ 1 ≤ p ∧ p ≤ 4096 ∧ 0 ≤ c ∧ c ≤ 4611686018427387903 ∧ l.length ≤ 512) := fun h => hh (decide_eq_true h)
    refine Ev.congr (f := fun k => spec_DigestOK.j0 k (l.length : Int) true s p c l) (fun k => ?_) (bad _ rfl)
    unfold spec_DigestOK.f
    by_cases a1 : s < 1
    · rw [if_pos a1]
    · by_cases a2 : s > 4096
      · rw [if_neg a1, if_pos a2]
      · by_cases a3 : p < 1
        · rw [if_neg a1, if_neg a2, if_pos a3]
        · by_cases a4 : p > 4096
          · rw [if_neg a1, if_neg a2, if_neg a3, if_pos a4]
          · rw [if_neg a1, if_neg a2, if_neg a3, if_neg a4, num_eq, Option.bind_some]
            by_cases a5 : 0 ≤ c ∧ c ≤ 4611686018427387903
            · rw [decide_eq_true a5, if_pos rfl, if_pos (by omega)]
            · rw [decide_eq_false a5, if_neg Bool.false_ne_true]

theorem impl_pts (s p c : Int) (l : List Int) (hl : l.length ≤ 512) (r : Bool) (hend : ∀ k, impl_DigestOK.l0 (k + 1) l (l.length : Int) (l.length : Int) s p c l = some r) (d : Nat) : ∀ i : Nat, i + d = l.length →
    Ev (fun k => impl_DigestOK.l0 k l (l.length : Int) (i : Int) s p c l) (ptsFrom l d i && r) := by
  induction d with
  | zero =>
    intro i hi
    obtain rfl : i = l.length := by omega
    rw [ptsFrom, Bool.true_and]
    exact Ev.step (fun k => hend k) (Ev.now _)
  | succ d ih =>
    intro i hi
    have c1 : (i : Int) < (l.length : Int) := by omega
    have e1 : Aside0 (wrap64 ((i : Int) + 1) = ((i + 1 : Nat) : Int)) := ⟨by rw [w64 (by omega) (by omega)]; omega⟩
    rw [ptsFrom]
    by_cases a1 : -1000000000000 ≤ l.getD i 0 ∧ l.getD i 0 ≤ 1000000000000
    · by_cases hz : i = 0
      · have : ptOK l i = true := by unfold ptOK; exact decide_eq_true (by omega)
        rw [this, Bool.true_and]
        have c2 : ¬ ((i : Int) > 0) := by omega
        refine Ev.step (fun k => ?_) (ih (i + 1) (by omega))
        rw [impl_DigestOK.l0, if_pos c1, if_pos (Int.natCast_nonneg _), if_pos c1, rd_nat, oOk_eq, decide_eq_true a1, Option.bind_some, if_pos rfl, if_neg c2, e1.out]
      · have c2 : (i : Int) > 0 := by omega
        have c3 : ((i - 1 : Nat) : Int) < (l.length : Int) := by omega
        have e2 : Aside0 (wrap64 ((i : Int) - 1) = ((i - 1 : Nat) : Int)) := ⟨by rw [w64 (by omega) (by omega)]; omega⟩
        by_cases a3 : l.getD i 0 < l.getD (i - 1) 0
        · have : ptOK l i = false := by unfold ptOK; exact decide_eq_false (by omega)
          rw [this, Bool.false_and]
          refine Ev.step (fun k => ?_) (Ev.now _)
          rw [impl_DigestOK.l0, if_pos c1, if_pos (Int.natCast_nonneg _), if_pos c1, rd_nat, oOk_eq, decide_eq_true a1, Option.bind_some, if_pos rfl, if_pos c2, e2.out, if_pos (Int.natCast_nonneg _), if_pos c3, rd_nat, if_pos a3, Bool.false_and]
        · have : ptOK l i = true := by unfold ptOK; exact decide_eq_true (by omega)
          rw [this, Bool.true_and]
          refine Ev.step (fun k => ?_) (ih (i + 1) (by omega))
          rw [impl_DigestOK.l0, if_pos c1, if_pos (Int.natCast_nonneg _), if_pos c1, rd_nat, oOk_eq, decide_eq_true a1, Option.bind_some, if_pos rfl, if_pos c2, e2.out, if_pos (Int.natCast_nonneg _), if_pos c3, rd_nat, if_neg a3, e1.out]
    · have : ptOK l i = false := by unfold ptOK; exact decide_eq_false (by omega)
      rw [this, Bool.false_and]
      refine Ev.step (fun k => ?_) (Ev.now _)
      rw [impl_DigestOK.l0, if_pos c1, if_pos (Int.natCast_nonneg _), if_pos c1, rd_nat, oOk_eq, decide_eq_false a1, Option.bind_some, if_neg Bool.false_ne_true, Bool.false_and]

theorem impl_DigestOK_eq (s p c : Int) (l : List Int) : Ev (fun k => impl_DigestOK.f k s p c l) (dOK s p c l) := by
  have bad : ∀ x : Bool, x = true → Ev (fun k => impl_DigestOK.j0 k x s p c l) false := by
    intro x hx
    refine Ev.step (fun k => ?_) (Ev.now _)
    rw [impl_DigestOK.j0, if_pos hx]
  by_cases hh : dHead s p c l.length = true
  · obtain ⟨h1, h2, h3, h4, h5, h6, h7⟩ := of_decide_eq_true hh
    unfold dOK
    rw [hh, Bool.true_and, Bool.and_comm]
    obtain ⟨q0, q1, q2, q3⟩ := digest_div s c h1 h5 h6
    have hmost := Aside0.mk (digest_most s p c h1 h2 h3 h4 h5 h6)
    have q2' := Aside0.mk q2
    have q3' := Aside0.mk q3
    clear q2 q3
    have hle : Aside0 (wrap64 (c / s + 1) = c / s + 1) := ⟨w64 (by omega) (by omega)⟩
    have hs0 : ¬ (s = 0) := by omega
    have hend : ∀ k, impl_DigestOK.l0 (k + 1) l (l.length : Int) (l.length : Int) s p c l = some (dMid s p c l.length) := by
      intro k
      have c0 : ¬ ((l.length : Int) < (l.length : Int)) := by omega
      rw [impl_DigestOK.l0, if_neg c0, if_neg hs0, q2'.out, q3'.out, hle.out, hmost.out]
      unfold dMid
      by_cases hr : c % s > 0
      · have hl : dLeast s c = c / s + 1 := by unfold dLeast; rw [if_pos hr]
        rw [hl, if_pos hr]
        (repeat' split) <;> first | exact congrArg some (decide_eq_decide.2 (by constructor <;> intro h <;> omega)) | exact congrArg some (decide_eq_false (by omega)).symm
      · have hl : dLeast s c = c / s := by unfold dLeast; rw [if_neg hr, Int.add_zero]
        rw [hl, if_neg hr]
        (repeat' split) <;> first | exact congrArg some (decide_eq_decide.2 (by constructor <;> intro h <;> omega)) | exact congrArg some (decide_eq_false (by omega)).symm
    have hpts := impl_pts s p c l h7 _ hend l.length 0 (by omega)
    rw [n0] at hpts
    have h8 : ¬ ((l.length : Int) > 512) := by omega
    refine Ev.congr (f := fun k => impl_DigestOK.j0 k false s p c l) (fun k => ?_) (Ev.step (fun k => ?_) hpts)
    · unfold impl_DigestOK.f
      rw [if_neg (by omega), if_neg (by omega), if_neg (by omega), if_neg (by omega), if_neg (by omega), if_neg (by omega), decide_eq_false h8]
    · rw [impl_DigestOK.j0, if_neg Bool.false_ne_true]
  · have hf : dOK s p c l = false := by unfold dOK; rw [Bool.eq_false_iff.2 hh, Bool.false_and]
    rw [hf]
    have hh' : ¬ (1 ≤ s ∧ s ≤ 4096 ∧ 1 ≤ p ∧ p ≤ 4096 ∧ 0 ≤ c ∧ c ≤ 4611686018427387903 ∧ l.length ≤ 512) := fun h => hh (decide_eq_true h)
    refine Ev.congr (f := fun k => impl_DigestOK.j0 k true s p c l) (fun k => ?_) (bad _ rfl)
    unfold impl_DigestOK.f
    by_cases a1 : s < 1
    · rw [if_pos a1]
    · by_cases a2 : s > 4096
      · rw [if_neg a1, if_pos a2]
      · by_cases a3 : p < 1
        · rw [if_neg a1, if_neg a2, if_pos a3]
        · by_cases a4 : p > 4096
          · rw [if_neg a1, if_neg a2, if_neg a3, if_pos a4]
          · by_cases a5 : c < 0
            · rw [if_neg a1, if_neg a2, if_neg a3, if_neg a4, if_pos a5]
            · by_cases a6 : c > 4611686018427387903
              · rw [if_neg a1, if_neg a2, if_neg a3, if_neg a4, if_neg a5, if_pos a6]
              · have a7 : (l.length : Int) > 512 := by omega
                rw [if_neg a1, if_neg a2, if_neg a3, if_neg a4, if_neg a5, if_neg a6, decide_eq_true a7]


def le' (x y : Int) : Bool := decide (x ≤ y)
theorem le_trans' (a b c : Int) (h1 : le' a b = true) (h2 : le' b c = true) : le' a c = true := by
  unfold le' at *
  have := of_decide_eq_true h1
  have := of_decide_eq_true h2
  exact decide_eq_true (by omega)
theorem le_total' (a b : Int) : (le' a b || le' b a) = true := by
  unfold le'
  rw [Bool.or_eq_true]
  rcases Int.le_total a b with h | h
  · exact .inl (decide_eq_true h)
  · exact .inr (decide_eq_true h)
theorem sort_unique {a b : List Int} (ha : a.Pairwise fun x y => le' x y = true) (hb : b.Pairwise fun x y => le' x y = true) (hp : a.Perm b) : a = b :=
  hp.eq_of_pairwise (fun x y _ _ h1 h2 => by
    unfold le' at h1 h2
    have := of_decide_eq_true h1
    have := of_decide_eq_true h2
    omega) ha hb
theorem sorted_ms (l : List Int) : (l.mergeSort le').Pairwise fun x y => le' x y = true := List.pairwise_mergeSort le_trans' le_total' l
theorem sort_halves (l : List Int) (n : Nat) : ((l.take n).mergeSort le').merge ((l.drop n).mergeSort le') le' = l.mergeSort le' := by
  refine sort_unique (List.pairwise_merge le_trans' le_total' _ _ (sorted_ms _) (sorted_ms _)) (sorted_ms _) ?_
  refine (List.merge_perm_append le').trans ?_
  refine ((List.mergeSort_perm _ _).append (List.mergeSort_perm _ _)).trans ?_
  rw [List.take_append_drop]
  exact (List.mergeSort_perm _ _).symm

theorem sort_merge (n : Nat) : ∀ (a b out : List Int), a.length + b.length = n → out.length + n < 17592186044416 → Ev (fun k => spec_l17Sort.l0 k a b out) (out ++ a.merge b le') := by
  induction n with
  | zero =>
    intro a b out h ho
    have ha : a = [] := List.length_eq_zero_iff.1 (by omega)
    have hb : b = [] := List.length_eq_zero_iff.1 (by omega)
    subst ha; subst hb
    refine Ev.step (fun k => by rw [spec_l17Sort.l0]) ?_
    refine Ev.neg (by simp) ?_
    refine Ev.step (fun k => by rw [spec_l17Sort.j1]) ?_
    refine Ev.neg (by simp) ?_
    rw [List.nil_merge, List.append_nil]
    exact Ev.now _
  | succ n ih =>
    intro a b out h ho
    cases a with
    | nil =>
      cases b with
      | nil => simp at h
      | cons y ys =>
        refine Ev.step (fun k => by rw [spec_l17Sort.l0]) ?_
        refine Ev.neg (by simp) ?_
        refine Ev.step (fun k => by rw [spec_l17Sort.j1]) ?_
        refine Ev.pos (by simp) ?_
        refine Ev.neg (by first | (simp; done) | (simp; omega)) ?_
        refine Ev.neg (by simp) ?_
        refine Ev.pos (by first | (simp; done) | (simp; omega)) ?_
        refine Ev.pos (by simp at h; omega) ?_
        refine Ev.pos (by first | (simp; done) | (simp; omega)) ?_
        have := ih [] ys (out ++ [y]) (by simp at h ⊢; omega) (by simp at h ⊢; omega)
        rw [List.nil_merge] at this ⊢
        rw [List.append_assoc] at this
        exact this
    | cons x xs =>
      cases b with
      | nil =>
        refine Ev.step (fun k => by rw [spec_l17Sort.l0]) ?_
        refine Ev.pos (by first | (simp; done) | (simp; omega)) ?_
        refine Ev.step (fun k => by rw [spec_l17Sort.j1]) ?_
        refine Ev.pos rfl ?_
        refine Ev.pos (by simp) ?_
        refine Ev.pos (by first | (simp; done) | (simp; omega)) ?_
        refine Ev.pos (by simp at h; omega) ?_
        refine Ev.pos (by first | (simp; done) | (simp; omega)) ?_
        have := ih xs [] (out ++ [x]) (by simp at h ⊢; omega) (by simp at h ⊢; omega)
        rw [List.merge_right] at this ⊢
        rw [List.append_assoc] at this
        exact this
      | cons y ys =>
        refine Ev.step (fun k => by rw [spec_l17Sort.l0]) ?_
        refine Ev.pos (by first | (simp; done) | (simp; omega)) ?_
        refine Ev.step (fun k => by rw [spec_l17Sort.j1]) ?_
        refine Ev.pos rfl ?_
        refine Ev.neg (by first | (simp; done) | (simp; omega)) ?_
        refine Ev.pos (by first | (simp; done) | (simp; omega)) ?_
        refine Ev.pos (by first | (simp; done) | (simp; omega)) ?_
        refine Ev.pos (by first | (simp; done) | (simp; omega)) ?_
        by_cases c : x ≤ y
        · refine Ev.pos c ?_
          refine Ev.pos (by simp at h; omega) ?_
          refine Ev.pos (by first | (simp; done) | (simp; omega)) ?_
          have := ih xs (y :: ys) (out ++ [x]) (by simp at h ⊢; omega) (by simp at h ⊢; omega)
          rw [List.append_assoc] at this
          rw [List.cons_merge_cons_pos le' _ _ (show le' x y = true from decide_eq_true c)]
          exact this
        · refine Ev.neg c ?_
          refine Ev.pos (by simp at h; omega) ?_
          refine Ev.pos (by first | (simp; done) | (simp; omega)) ?_
          have := ih (x :: xs) ys (out ++ [y]) (by simp at h ⊢; omega) (by simp at h ⊢; omega)
          rw [List.append_assoc] at this
          rw [List.cons_merge_cons_neg le' _ _ (show ¬ le' x y = true from by unfold le'; exact fun h => c (of_decide_eq_true h))]
          exact this

theorem sort_short (l : List Int) (h : l.length < 2) : l.mergeSort le' = l := by
  match l, h with
  | [], _ => simp
  | [x], _ => simp

theorem sort_ev (n : Nat) : ∀ l : List Int, l.length ≤ n → n ≤ 1000000 → Ev (fun k => spec_l17Sort.f k l) (l.mergeSort le') := by
  induction n with
  | zero =>
    intro l hl hn
    refine Ev.step (fun k => by rw [spec_l17Sort.f]) ?_
    refine Ev.pos (by omega) ?_
    refine Ev.bind (Ev.now _) ?_
    refine Ev.pos (by first | (simp; done) | (simp; omega)) ?_
    rw [sort_short l (by omega)]
    exact Ev.now _
  | succ n ih =>
    intro l hl hn
    refine Ev.step (fun k => by rw [spec_l17Sort.f]) ?_
    by_cases c : l.length < 2
    · refine Ev.pos (by omega) ?_
      refine Ev.bind (Ev.now _) ?_
      refine Ev.pos (by first | (simp; done) | (simp; omega)) ?_
      rw [sort_short l c]
      exact Ev.now _
    · have e : wrap64 ((l.length : Int) / 2) = ((l.length / 2 : Nat) : Int) := by rw [w64 (by omega) (by omega)]; omega
      rw [e]
      refine Ev.neg (by omega) ?_
      refine Ev.pos (by omega) ?_
      refine Ev.pos (by omega) ?_
      rw [Int.toNat_natCast]
      refine Ev.bind (ih (l.take (l.length / 2)) (by rw [List.length_take]; omega) (by omega)) ?_
      refine Ev.bind (ih (l.drop (l.length / 2)) (by rw [List.length_drop]; omega) (by omega)) ?_
      have := sort_merge l.length ((l.take (l.length / 2)).mergeSort le') ((l.drop (l.length / 2)).mergeSort le') [] (by first | (simp; done) | (simp; omega)) (by first | (simp; done) | (simp; omega))
      rw [sort_halves, List.nil_append] at this
      exact this


theorem impl_sort (l : List Int) (h : l.length ≤ 1000000) : slices_Sort_int_int.f l = some (l.mergeSort le') := by
  unfold slices_Sort_int_int.f
  rw [if_pos h]; rfl

def badNum (x : Int) : Bool := !(decide (-1000000000000 ≤ x) && decide (x ≤ 1000000000000))
def cntPts (l : List Int) (s : Nat) : Nat := (l.length + s - 1) / s
def ptsTo (l : List Int) (s j : Nat) : List Int := (List.range j).map fun i => l.getD (i * s) 0
def digTell (l : List Int) (s : Int) : Int × Int × Int × List Int × Int :=
  if l.length > 4096 then (0, 0, 0, [], 2)
  else if s < 1 ∨ s > 4096 ∨ l.any badNum = true then (0, 0, 0, [], 12)
  else if cntPts l s.toNat > 512 then (0, 0, 0, [], 11)
  else (s, 1, (l.length : Int), ptsTo (l.mergeSort le') s.toNat (cntPts l s.toNat), 0)

theorem ptsTo_length (l : List Int) (s j : Nat) : (ptsTo l s j).length = j := by simp [ptsTo]
theorem ptsTo_succ (l : List Int) (s j : Nat) : ptsTo l s (j + 1) = ptsTo l s j ++ [l.getD (j * s) 0] := by simp [ptsTo, List.range_succ]
theorem lt_cnt (l : List Int) (s j : Nat) (hs : 1 ≤ s) : j < cntPts l s ↔ j * s < l.length := by
  unfold cntPts
  have := Nat.le_div_iff_mul_le (x := j + 1) (y := l.length + s - 1) (k := s) (by omega)
  rw [Nat.succ_mul] at this
  rw [← Nat.succ_le_iff, Nat.succ_eq_add_one, this]
  generalize j * s = m
  omega
theorem cnt_le (l : List Int) (s : Nat) (hs : 1 ≤ s) : cntPts l s ≤ l.length := by
  by_cases h : cntPts l s ≤ l.length
  · exact h
  · have := (lt_cnt l s l.length hs).1 (by omega)
    have h2 : l.length * 1 ≤ l.length * s := Nat.mul_le_mul_left _ hs
    omega

theorem pick_loop (f : Nat → Int → List Int → Int → Int → Int → Int → List Int → Option (Int × Int × Int × List Int × Int))
    (hf : ∀ k x1 x6 x8 a b c o, f (k + 1) x1 x6 x8 a b c o = if x8 < (x6.length : Int) then (if 0 ≤ x8 then (if o.length < 17592186044416 then (f k x1 x6 (wrap64 (x8 + x1)) a b c (o ++ [rd x6 x8])) else (none)) else (none)) else (if (o.length : Int) > 512 then (some (0, 0, 0, ([] : List Int), 11)) else (some (a, b, c, o, 0))))
    (s : Nat) (h1 : 1 ≤ s) (h2 : s ≤ 4096) (l : List Int) (hl : l.length ≤ 4096) (a b c : Int) (d : Nat) : ∀ j : Nat, j + d = cntPts l s →
      Ev (fun k => f k (s : Int) l ((j * s : Nat) : Int) a b c (ptsTo l s j)) (if cntPts l s > 512 then (0, 0, 0, [], 11) else (a, b, c, ptsTo l s (cntPts l s), 0)) := by
  induction d with
  | zero =>
    intro j hj
    have hge : ¬ (j * s < l.length) := fun h => by
      have := (lt_cnt l s j h1).2 h
      omega
    obtain rfl : j = cntPts l s := by omega
    refine Ev.step (fun k => by rw [hf]) ?_
    generalize cntPts l s * s = m at *
    refine Ev.neg (by omega) ?_
    rw [ptsTo_length]
    by_cases g : cntPts l s > 512
    · rw [if_pos g]
      exact Ev.pos (by omega) (Ev.now _)
    · rw [if_neg g]
      exact Ev.neg (by omega) (Ev.now _)
  | succ d ih =>
    intro j hj
    have hlt := (lt_cnt l s j h1).1 (by omega)
    have hc := cnt_le l s h1
    have := ih (j + 1) (by omega)
    rw [Nat.succ_mul, ptsTo_succ] at this
    refine Ev.step (fun k => by rw [hf]) ?_
    generalize j * s = m at *
    refine Ev.pos (by omega) ?_
    refine Ev.pos (by omega) ?_
    refine Ev.pos (by rw [ptsTo_length]; omega) ?_
    have e : wrap64 ((m : Int) + (s : Int)) = ((m + s : Nat) : Int) := by rw [w64 (by omega) (by omega)]; omega
    rw [e, rd_nat]
    exact this

theorem any_drop (l : List Int) (i : Nat) (h : i < l.length) : (l.drop i).any badNum = (badNum (l.getD i 0) || (l.drop (i + 1)).any badNum) := by
  rw [List.drop_eq_getElem_cons h, List.any_cons, List.getD_eq_getElem?_getD, List.getElem?_eq_getElem h]; rfl

theorem cnt_sort (l : List Int) (s : Nat) : cntPts (l.mergeSort le') s = cntPts l s := by unfold cntPts; rw [List.length_mergeSort]

theorem spec_of_range (l : List Int) (s : Int) : Ev (fun k => spec_DigestOf.j0 k l s true) (0, 0, 0, [], 12) := by
  refine Ev.step (fun k => by rw [spec_DigestOf.j0]) ?_
  exact Ev.pos rfl (Ev.now _)
theorem impl_of_range (l : List Int) (s : Int) : Ev (fun k => impl_DigestOf.j0 k l s true) (0, 0, 0, [], 12) := by
  refine Ev.step (fun k => by rw [impl_DigestOf.j0]) ?_
  exact Ev.pos rfl (Ev.now _)

section
variable (l : List Int) (s : Int) (hl : l.length ≤ 4096) (h1 : 1 ≤ s) (h2 : s ≤ 4096)
def goodTell : Int × Int × Int × List Int × Int := if cntPts l s.toNat > 512 then (0, 0, 0, [], 11) else (s, 1, (l.length : Int), ptsTo (l.mergeSort le') s.toNat (cntPts l s.toNat), 0)

include hl h1 h2 in
theorem spec_of_scan (d : Nat) : ∀ i : Nat, i + d = l.length → Ev (fun k => spec_DigestOf.l0 k l s (i : Int)) (if (l.drop i).any badNum = true then (0, 0, 0, [], 12) else goodTell l s) := by
  induction d with
  | zero =>
    intro i hi
    rw [show l.drop i = [] from List.drop_eq_nil_of_le (by omega), List.any_nil, if_neg Bool.false_ne_true]
    refine Ev.step (fun k => by rw [spec_DigestOf.l0]) ?_
    refine Ev.neg (by omega) ?_
    refine Ev.bind (sort_ev 1000000 l (by omega) (by omega)) ?_
    have := pick_loop spec_DigestOf.l1 (fun _ _ _ _ _ _ _ _ => rfl) s.toNat (by omega) (by omega) (l.mergeSort le') (by rw [List.length_mergeSort]; exact hl) s 1 (l.length : Int) (cntPts (l.mergeSort le') s.toNat) 0 (by omega)
    rw [cnt_sort, Nat.zero_mul, Int.toNat_of_nonneg (by omega)] at this
    exact this
  | succ d ih =>
    intro i hi
    rw [any_drop l i (by omega)]
    refine Ev.step (fun k => by rw [spec_DigestOf.l0]) ?_
    refine Ev.pos (by omega) ?_
    refine Ev.pos (by omega) ?_
    rw [rd_nat]
    by_cases a : l.getD i 0 < -1000000000000
    · have : badNum (l.getD i 0) = true := by unfold badNum; rw [decide_eq_false (by omega)]; rfl
      rw [this, Bool.true_or, if_pos rfl]
      exact Ev.pos a (Ev.now _)
    · refine Ev.neg a ?_
      by_cases b : l.getD i 0 > 1000000000000
      · have : badNum (l.getD i 0) = true := by unfold badNum; rw [decide_eq_true (show -1000000000000 ≤ l.getD i 0 by omega), decide_eq_false (by omega)]; rfl
        rw [this, Bool.true_or, if_pos rfl]
        exact Ev.pos b (Ev.now _)
      · have : badNum (l.getD i 0) = false := by unfold badNum; rw [decide_eq_true (show -1000000000000 ≤ l.getD i 0 by omega), decide_eq_true (show l.getD i 0 ≤ 1000000000000 by omega)]; rfl
        rw [this, Bool.false_or]
        have e1 : wrap64 ((i : Int) + 1) = ((i + 1 : Nat) : Int) := by rw [w64 (by omega) (by omega)]; omega
        rw [e1]
        exact Ev.neg b (ih (i + 1) (by omega))
include hl h1 h2 in
theorem impl_of_good (hb : l.any badNum = false) : Ev (fun k => impl_DigestOf.j0 k l s false) (goodTell l s) := by
  refine Ev.step (fun k => by rw [impl_DigestOf.j0]) ?_
  refine Ev.neg Bool.false_ne_true ?_
  refine Ev.bind (Ev.ofEq (show slices_Sorted_int.f l = some (l.mergeSort le') by unfold slices_Sorted_int.f; rw [if_pos (by omega)]; rfl)) ?_
  have := pick_loop impl_DigestOf.l0 (fun _ _ _ _ _ _ _ _ => rfl) s.toNat (by omega) (by omega) (l.mergeSort le') (by rw [List.length_mergeSort]; exact hl) s 1 ((l.mergeSort le').length : Int) (cntPts (l.mergeSort le') s.toNat) 0 (by omega)
  rw [cnt_sort, Nat.zero_mul, Int.toNat_of_nonneg (by omega)] at this
  unfold goodTell
  rw [List.length_mergeSort] at *
  exact this
end

theorem digestOf_eq (l : List Int) (s : Int) : Ev (fun k => spec_DigestOf.f k l s) (digTell l s) ∧ Ev (fun k => impl_DigestOf.f k l s) (digTell l s) := by
  unfold digTell
  by_cases hl : l.length > 4096
  · rw [if_pos hl]
    exact ⟨Ev.pos (by omega) (Ev.now _), Ev.pos (by omega) (Ev.now _)⟩
  · rw [if_neg hl]
    have n1 : ¬ ((l.length : Int) > 4096) := by omega
    by_cases h1 : s < 1
    · rw [if_pos (.inl h1)]
      exact ⟨Ev.neg n1 (Ev.pos h1 (spec_of_range l s)), Ev.neg n1 (Ev.pos h1 (impl_of_range l s))⟩
    · by_cases h2 : s > 4096
      · rw [if_pos (.inr (.inl h2))]
        refine ⟨Ev.neg n1 (Ev.neg h1 ?_), Ev.neg n1 (Ev.neg h1 (Ev.pos h2 (impl_of_range l s)))⟩
        rw [decide_eq_true h2]
        exact spec_of_range l s
      · have sc := spec_of_scan l s (by omega) (by omega) (by omega) l.length 0 (by omega)
        rw [List.drop_zero] at sc
        refine ⟨Ev.neg n1 (Ev.neg h1 ?_), Ev.neg n1 (Ev.neg h1 (Ev.neg h2 ?_))⟩
        · rw [decide_eq_false h2]
          refine Ev.step (fun k => by rw [spec_DigestOf.j0]) ?_
          refine Ev.neg Bool.false_ne_true ?_
          by_cases hb : l.any badNum = true
          · rw [if_pos hb] at sc
            rw [if_pos (.inr (.inr hb))]
            exact sc
          · rw [if_neg hb] at sc
            rw [if_neg (fun h => h.elim h1 fun h => h.elim h2 hb)]
            exact sc
        · refine Ev.bind (Ev.ofEq (show impl_DigestOf_1_contains.f l = some (l.any badNum) from rfl)) ?_
          by_cases hb : l.any badNum = true
          · rw [if_pos (.inr (.inr hb)), hb]
            exact impl_of_range l s
          · rw [if_neg (fun h => h.elim h1 fun h => h.elim h2 hb), Bool.eq_false_iff.2 hb]
            exact impl_of_good l s (by omega) (by omega) (by omega) (Bool.eq_false_iff.2 hb)

theorem digTell_len (l : List Int) (s : Int) : (digTell l s).2.2.2.1.length ≤ 512 := by
  unfold digTell
  split
  · simp
  · split
    · simp
    · split
      · simp
      · rw [ptsTo_length]; omega

def joinTell (s p c : Int) (l : List Int) (s' p' c' : Int) (l' : List Int) : Int × Int × Int × List Int × Int :=
  if dOK s p c l = true ∧ dOK s' p' c' l' = true then
    (if s = s' ∧ p + p' ≤ 4096 ∧ c ≤ 4611686018427387903 - c' then
      (if l.length + l'.length ≤ 512 then (s, p + p', c + c', (l ++ l').mergeSort le', 0) else (0, 0, 0, [], 11))
    else (0, 0, 0, [], 12))
  else (0, 0, 0, [], 1)
theorem ok_head (s p c : Int) (l : List Int) (h : dOK s p c l = true) : 1 ≤ s ∧ s ≤ 4096 ∧ 1 ≤ p ∧ p ≤ 4096 ∧ 0 ≤ c ∧ c ≤ 4611686018427387903 ∧ l.length ≤ 512 := by
  unfold dOK at h
  rw [Bool.and_eq_true] at h
  exact of_decide_eq_true h.1
section
variable (s p c : Int) (l : List Int) (s' p' c' : Int) (l' : List Int)
theorem impl_join_bad : Ev (fun k => impl_DigestJoin.j0 k true s p c l s' p' c' l') (0, 0, 0, [], 1) := by
  refine Ev.step (fun k => by rw [impl_DigestJoin.j0]) ?_
  exact Ev.pos rfl (Ev.now _)
theorem impl_join_range : Ev (fun k => impl_DigestJoin.j1 k true s p c l s' p' c' l') (0, 0, 0, [], 12) := by
  refine Ev.step (fun k => by rw [impl_DigestJoin.j1]) ?_
  exact Ev.pos rfl (Ev.now _)
theorem impl_join_last (h1 : dOK s p c l = true) (h2 : dOK s' p' c' l' = true) (hc : c ≤ 4611686018427387903 - c') (hp : p + p' ≤ 4096) :
    Ev (fun k => impl_DigestJoin.j1 k false s p c l s' p' c' l') (if l.length + l'.length ≤ 512 then (s, p + p', c + c', (l ++ l').mergeSort le', 0) else (0, 0, 0, [], 11)) := by
  obtain ⟨a1, a2, a3, a4, a5, a6, a7⟩ := ok_head s p c l h1
  obtain ⟨b1, b2, b3, b4, b5, b6, b7⟩ := ok_head s' p' c' l' h2
  have e : wrap64 ((l.length : Int) + (l'.length : Int)) = (l.length : Int) + (l'.length : Int) := w64 (by omega) (by omega)
  have ep : wrap64 (p + p') = p + p' := w64 (by omega) (by omega)
  have ec : wrap64 (c + c') = c + c' := w64 (by omega) (by omega)
  refine Ev.step (fun k => by rw [impl_DigestJoin.j1]) ?_
  refine Ev.neg Bool.false_ne_true ?_
  rw [e]
  by_cases g : l.length + l'.length ≤ 512
  · rw [if_pos g]
    refine Ev.neg (by omega) ?_
    unfold slices_Clone_int_int.f
    rw [if_pos (by omega)]
    refine Ev.bind (Ev.now _) ?_
    refine Ev.pos (by omega) ?_
    rw [impl_sort (l ++ l') (by simp; omega)]
    refine Ev.bind (Ev.now _) ?_
    rw [ep, ec]
    exact Ev.now _
  · rw [if_neg g]
    exact Ev.pos (by omega) (Ev.now _)
theorem impl_join_eq : Ev (fun k => impl_DigestJoin.f k s p c l s' p' c' l') (joinTell s p c l s' p' c' l') := by
  have i1 := impl_DigestOK_eq s p c l
  have i2 := impl_DigestOK_eq s' p' c' l'
  by_cases h1 : dOK s p c l = true
  · by_cases h2 : dOK s' p' c' l' = true
    · rw [h1] at i1
      rw [h2] at i2
      refine Ev.bind i1 (Ev.pos rfl (Ev.bind i2 ?_))
      obtain ⟨a1, a2, a3, a4, a5, a6, a7⟩ := ok_head s p c l h1
      obtain ⟨b1, b2, b3, b4, b5, b6, b7⟩ := ok_head s' p' c' l' h2
      have ep : wrap64 (p + p') = p + p' := w64 (by omega) (by omega)
      have ec : wrap64 (4611686018427387903 - c') = 4611686018427387903 - c' := w64 (by omega) (by omega)
      unfold joinTell
      rw [if_pos ⟨h1, h2⟩]
      refine Ev.step (fun k => by rw [impl_DigestJoin.j0]) ?_
      refine Ev.neg Bool.false_ne_true ?_
      rw [ep, ec]
      by_cases g : s = s'
      · refine Ev.pos g ?_
        by_cases g2 : p + p' > 4096
        · rw [if_neg (by omega)]
          exact Ev.pos g2 (impl_join_range ..)
        · refine Ev.neg g2 ?_
          by_cases g3 : c > 4611686018427387903 - c'
          · rw [if_neg (by omega), decide_eq_true g3]
            exact impl_join_range ..
          · rw [if_pos ⟨g, by omega, by omega⟩, decide_eq_false g3]
            exact impl_join_last s p c l s' p' c' l' h1 h2 (by omega) (by omega)
      · rw [if_neg (fun h => g h.1)]
        exact Ev.neg g (impl_join_range ..)
    · unfold joinTell
      rw [if_neg (fun h => h2 h.2)]
      rw [h1] at i1
      rw [Bool.eq_false_iff.2 h2] at i2
      exact Ev.bind i1 (Ev.pos rfl (Ev.bind i2 (impl_join_bad ..)))
  · unfold joinTell
    rw [if_neg (fun h => h1 h.1)]
    rw [Bool.eq_false_iff.2 h1] at i1
    exact Ev.bind i1 (Ev.neg Bool.false_ne_true (impl_join_bad ..))
end

def cntFrom (l : List Int) (v : Int) : Nat → Nat → Int → Int
  | 0, _, c => c
  | d + 1, i, c => if l.getD i 0 ≤ v then cntFrom l v d (i + 1) (wrap64 (c + 1)) else cntFrom l v d (i + 1) c
def rankOf (s p c k : Int) : Int × Int × Int := (wrap64 ((wrap64 (k * s)) - (wrap64 ((wrap64 (s - 1)) * (mn p k)))), mn (wrap64 (k * s)) c, 0)
def rankTell (s p c : Int) (l : List Int) (v : Int) : Int × Int × Int := if dOK s p c l then rankOf s p c (cntFrom l v l.length 0 0) else (0, 0, 1)

theorem impl_rank (s p c : Int) (l : List Int) (v : Int) (hl : l.length ≤ 512) (d : Nat) : ∀ (i : Nat) (x : Int), i + d = l.length → Ev (fun k => impl_DigestRank.l0 k v x l (l.length : Int) (i : Int) s p c l) (rankOf s p c (cntFrom l v d i x)) := by
  induction d with
  | zero =>
    intro i x hi
    refine Ev.step (fun k => ?_) (Ev.now _)
    rw [impl_DigestRank.l0, if_neg (by omega)]; rfl
  | succ d ih =>
    intro i x hi
    have c1 : (i : Int) < (l.length : Int) := by omega
    have e1 : Aside0 (wrap64 ((i : Int) + 1) = ((i + 1 : Nat) : Int)) := ⟨by rw [w64 (by omega) (by omega)]; omega⟩
    rw [cntFrom]
    by_cases hc : l.getD i 0 ≤ v
    · rw [if_pos hc]
      refine Ev.step (fun k => ?_) (ih (i + 1) _ (by omega))
      rw [impl_DigestRank.l0, if_pos c1, if_pos (Int.natCast_nonneg _), if_pos c1, rd_nat, if_pos hc, e1.out]
    · rw [if_neg hc]
      refine Ev.step (fun k => ?_) (ih (i + 1) _ (by omega))
      rw [impl_DigestRank.l0, if_pos c1, if_pos (Int.natCast_nonneg _), if_pos c1, rd_nat, if_neg hc, e1.out]

theorem dOK_len (s p c : Int) (l : List Int) (h : dOK s p c l = true) : l.length ≤ 512 := by
  unfold dOK at h
  rw [Bool.and_eq_true] at h
  exact (of_decide_eq_true h.1).2.2.2.2.2.2

theorem impl_Rank_eq (s p c : Int) (l : List Int) (v : Int) : Ev (fun k => impl_DigestRank.f k s p c l v) (rankTell s p c l v) := by
  unfold rankTell
  by_cases h : dOK s p c l = true
  · rw [if_pos h]
    have h1 := impl_DigestOK_eq s p c l
    rw [h] at h1
    have h2 := impl_rank s p c l v (dOK_len s p c l h) l.length 0 0 (by omega)
    rw [n0] at h2
    refine Ev.bind h1 (Ev.congr (fun k => ?_) h2)
    rw [if_pos rfl]
  · rw [if_neg h]
    have h1 := impl_DigestOK_eq s p c l
    rw [Bool.eq_false_iff.2 h] at h1
    refine Ev.bind h1 (Ev.congr (fun k => ?_) (Ev.now _))
    rw [if_neg Bool.false_ne_true]


def atTell (s p c : Int) (l : List Int) (v : Int) : Int × Int :=
  if dOK s p c l then (if v < 0 ∨ v > 100 then (0, 12) else if c = 0 then (0, 8) else (rd l (v * ((l.length : Int) - 1) / 100), 0)) else (0, 1)

theorem at_index (s p c : Int) (l : List Int) (h : dOK s p c l = true) (hc : ¬ c = 0) (v : Int) (h0 : 0 ≤ v) (h1 : v ≤ 100) :
    wrap64 (Int.tdiv (wrap64 (v * wrap64 ((l.length : Int) - 1))) 100) = v * ((l.length : Int) - 1) / 100 ∧ 0 ≤ v * ((l.length : Int) - 1) / 100 ∧ v * ((l.length : Int) - 1) / 100 < (l.length : Int) := by
  unfold dOK at h
  rw [Bool.and_eq_true, Bool.and_eq_true] at h
  obtain ⟨a1, a2, a3, a4, a5, a6, a7⟩ := of_decide_eq_true h.1
  obtain ⟨b1, b2, b3⟩ := of_decide_eq_true h.2.1
  have hn : 1 ≤ l.length := by
    unfold dLeast at b2
    obtain ⟨q0, _, _, _⟩ := digest_div s c a1 a5 a6
    by_cases hr : c % s > 0
    · rw [if_pos hr] at b2; omega
    · rw [if_neg hr] at b2
      have h1 : c % s = 0 := by have := Int.emod_nonneg c (show s ≠ 0 by omega); omega
      have h2 := Int.mul_ediv_add_emod c s
      rw [h1] at h2
      by_cases hq : c / s = 0
      · rw [hq, Int.mul_zero] at h2; omega
      · generalize c / s = q at *
        omega
  clear b1 b2 b3 h a1 a2 a3 a4
  generalize l.length = n at *
  have e1 : wrap64 ((n : Int) - 1) = (n : Int) - 1 := w64 (by omega) (by omega)
  rw [e1]
  clear e1
  have m1 : v * ((n : Int) - 1) ≤ 100 * ((n : Int) - 1) := Int.mul_le_mul_of_nonneg_right h1 (by omega)
  have m0 : 0 ≤ v * ((n : Int) - 1) := Int.mul_nonneg h0 (by omega)
  generalize v * ((n : Int) - 1) = m at *
  rw [w64 (x := m) (by omega) (by omega), Int.tdiv_eq_ediv_of_nonneg m0, w64 (x := m / 100) (by omega) (by omega)]
  omega

theorem impl_At_eq (s p c : Int) (l : List Int) (v : Int) : Ev (fun k => impl_DigestAt.f k s p c l v) (atTell s p c l v) := by
  unfold atTell
  by_cases h : dOK s p c l = true
  · rw [if_pos h]
    have h1 := impl_DigestOK_eq s p c l
    rw [h] at h1
    refine Ev.bind h1 ?_
    by_cases hv : v < 0 ∨ v > 100
    · rw [if_pos hv]
      refine Ev.step (f := fun k => some (0, 12)) (fun k => ?_) (Ev.now _)
      rw [if_pos rfl]
      by_cases h0 : v < 0
      · rw [if_pos h0, impl_DigestAt.j0, if_pos rfl]
      · rw [if_neg h0, decide_eq_true (by omega), impl_DigestAt.j0, if_pos rfl]
    · rw [if_neg hv]
      by_cases hc : c = 0
      · rw [if_pos hc]
        refine Ev.step (fun k => ?_) (Ev.now _)
        rw [if_pos rfl, if_neg (by omega), decide_eq_false (by omega), impl_DigestAt.j0, if_neg Bool.false_ne_true, if_pos hc]
      · rw [if_neg hc]
        obtain ⟨e, i0, i1⟩ := at_index s p c l h hc v (by omega) (by omega)
        have c0 : ¬ (v < 0) := by omega
        have c1 : ¬ (v > 100) := by omega
        refine Ev.step (fun k => ?_) (Ev.now _)
        rw [if_pos rfl, if_neg c0, decide_eq_false c1, impl_DigestAt.j0, if_neg Bool.false_ne_true, if_neg hc, e, if_pos i0, if_pos i1]
  · rw [if_neg h]
    have h1 := impl_DigestOK_eq s p c l
    rw [Bool.eq_false_iff.2 h] at h1
    refine Ev.bind h1 (Ev.congr (fun k => ?_) (Ev.now _))
    rw [if_neg Bool.false_ne_true]


/-! ### The drawer of drawn inputs: what its bytes and numbers are -/
def BytesOK (s : List Int) : Prop := s.length ≤ 1048576 ∧ ∀ i, i < s.length → 0 ≤ s.getD i 0 ∧ s.getD i 0 ≤ 255
def SeedOK (q : Int) : Prop := 0 ≤ q ∧ q < 2147483648
theorem src_byte (s : List Int) (hs : BytesOK s) (at_ q : Int) (h0 : 0 ≤ at_) (h1 : at_ ≤ 1000000000000) (hq : SeedOK q) :
    ∃ v q', spec_l01Src_byte.f s at_ q = some (v, at_ + 1, q') ∧ 0 ≤ v ∧ v ≤ 255 ∧ SeedOK q' := by
  obtain ⟨q0, q1⟩ := hq
  have e1 : Aside0 (wrap64 (at_ + 1) = at_ + 1) := ⟨w64 (by omega) (by omega)⟩
  have e2 : Aside0 (wrap64 (at_ + 1 - 1) = at_) := ⟨by rw [w64 (by omega) (by omega)]; omega⟩
  have hl := hs.1
  unfold spec_l01Src_byte.f
  rw [e1.out, e2.out]
  by_cases c : at_ + 1 ≤ (s.length : Int)
  · rw [if_pos c, if_pos h0, if_pos (by omega)]
    obtain ⟨n, rfl⟩ : ∃ n : Nat, at_ = n := ⟨at_.toNat, by omega⟩
    obtain ⟨b0, b1⟩ := hs.2 n (by omega)
    rw [rd_nat]
    generalize s.getD n 0 = b at *
    have e3 : Aside0 (wrap64 b = b) := ⟨w64 (by omega) (by omega)⟩
    have e4 : Aside0 (wrap64 (q * 31) = q * 31) := ⟨w64 (by omega) (by omega)⟩
    have e5 : Aside0 (wrap64 (q * 31 + b) = q * 31 + b) := ⟨w64 (by omega) (by omega)⟩
    have e6 : Aside0 (wrap64 (q * 31 + b + 7) = q * 31 + b + 7) := ⟨w64 (by omega) (by omega)⟩
    rw [e3.out, e4.out, e5.out, e6.out, Int.tmod_eq_emod_of_nonneg (by omega)]
    exact ⟨_, _, rfl, b0, b1, by omega, by omega⟩
  · rw [if_neg c]
    by_cases c2 : at_ + 1 > wrap64 (4000 + wrap64 (4 * (s.length : Int)))
    · rw [if_pos c2]; exact ⟨_, _, rfl, by omega, by omega, q0, q1⟩
    · rw [if_neg c2]
      have e4 : Aside0 (wrap64 (q * 1103515245) = q * 1103515245) := ⟨w64 (by omega) (by omega)⟩
      have e5 : Aside0 (wrap64 (q * 1103515245 + 12345) = q * 1103515245 + 12345) := ⟨w64 (by omega) (by omega)⟩
      rw [e4.out, e5.out, Int.tmod_eq_emod_of_nonneg (a := q * 1103515245 + 12345) (by omega)]
      generalize hz : (q * 1103515245 + 12345) % 2147483648 = z
      have z0 : 0 ≤ z := by omega
      have z1 : z < 2147483648 := by omega
      clear hz e4 e5 c2
      have e7 : Aside0 (wrap64 (Int.tdiv z 65536) = z / 65536) := ⟨by rw [Int.tdiv_eq_ediv_of_nonneg z0, w64 (by omega) (by omega)]⟩
      rw [e7.out, Int.tmod_eq_emod_of_nonneg (by omega)]
      exact ⟨_, _, rfl, by omega, by omega, z0, z1⟩
theorem src_next (s : List Int) (hs : BytesOK s) (at_ q n : Int) (h0 : 0 ≤ at_) (h1 : at_ ≤ 100000000000) (hq : SeedOK q) (hn : 1 ≤ n) :
    ∃ v a' q', spec_l01Src_next.f s at_ q n = some (v, a', q') ∧ 0 ≤ v ∧ v < n ∧ at_ ≤ a' ∧ a' ≤ at_ + 3 ∧ SeedOK q' := by
  unfold spec_l01Src_next.f
  by_cases c1 : n ≤ 1
  · rw [if_pos c1]; exact ⟨_, _, _, rfl, by omega, by omega, by omega, by omega, hq⟩
  · rw [if_neg c1]
    obtain ⟨v1, q1, e1, b1, d1, hq1⟩ := src_byte s hs at_ q h0 (by omega) hq
    rw [e1]
    by_cases c2 : n ≤ 256
    · rw [if_pos c2, Option.bind_some, if_neg (by omega)]
      simp only
      rw [Int.tmod_eq_emod_of_nonneg b1]
      exact ⟨_, _, _, rfl, Int.emod_nonneg _ (by omega), Int.emod_lt_of_pos _ (by omega), by omega, by omega, hq1⟩
    · obtain ⟨v2, q2, e2, b2, d2, hq2⟩ := src_byte s hs (at_ + 1) q1 (by omega) (by omega) hq1
      obtain ⟨v3, q3, e3, b3, d3, hq3⟩ := src_byte s hs (at_ + 1 + 1) q2 (by omega) (by omega) hq2
      rw [if_neg c2]
      simp only [Option.bind_some]
      rw [e2]
      simp only [Option.bind_some]
      rw [e3]
      simp only [Option.bind_some]
      rw [if_neg (by omega)]
      have w1 : Aside0 (wrap64 (v1 * 65536) = v1 * 65536) := ⟨w64 (by omega) (by omega)⟩
      have w2 : Aside0 (wrap64 (v2 * 256) = v2 * 256) := ⟨w64 (by omega) (by omega)⟩
      have w3 : Aside0 (wrap64 (v1 * 65536 + v2 * 256) = v1 * 65536 + v2 * 256) := ⟨w64 (by omega) (by omega)⟩
      have w4 : Aside0 (wrap64 (v1 * 65536 + v2 * 256 + v3) = v1 * 65536 + v2 * 256 + v3) := ⟨w64 (by omega) (by omega)⟩
      rw [w1.out, w2.out, w3.out, w4.out, Int.tmod_eq_emod_of_nonneg (by omega)]
      exact ⟨_, _, _, rfl, Int.emod_nonneg _ (by omega), Int.emod_lt_of_pos _ (by omega), by omega, by omega, hq3⟩
theorem src_start (l : List Int) (h : l.length ≤ 1048576) : ∃ q, spec_l01Source.f l = some (l, 0, q) ∧ SeedOK q := by
  unfold spec_l01Source.f
  exact ⟨_, rfl, by omega, by omega⟩

theorem at_ex (l : List Int) (hs : BytesOK l) (i n : Int) (h0 : 0 ≤ i) (h1 : i ≤ 1) (hn : 2 ≤ n) (hn2 : n ≤ 1000000) : ∃ v, laws_at.f l i n = some v ∧ 0 ≤ v ∧ v < n := by
  have hl := hs.1
  unfold laws_at.f
  rw [if_neg (by omega)]
  by_cases c : (l.length : Int) = 0
  · rw [if_pos c, if_neg (by omega), w64 (x := i * 7) (by omega) (by omega), Int.tmod_eq_emod_of_nonneg (by omega)]
    exact ⟨_, rfl, Int.emod_nonneg _ (by omega), Int.emod_lt_of_pos _ (by omega)⟩
  · have hp : 0 < (l.length : Int) := by omega
    have g : ∀ j : Int, 0 ≤ j → 0 ≤ Int.tmod j (l.length : Int) ∧ Int.tmod j (l.length : Int) < (l.length : Int) ∧ 0 ≤ rd l (Int.tmod j (l.length : Int)) ∧ rd l (Int.tmod j (l.length : Int)) ≤ 255 := by
      intro j hj
      rw [Int.tmod_eq_emod_of_nonneg hj]
      have a := Int.emod_nonneg j (show (l.length : Int) ≠ 0 by omega)
      have b := Int.emod_lt_of_pos j hp
      obtain ⟨m, hm⟩ : ∃ m : Nat, j % (l.length : Int) = m := ⟨(j % (l.length : Int)).toNat, by omega⟩
      rw [hm] at a b ⊢
      rw [rd_nat]
      have := hs.2 m (by omega)
      omega
    have e1 : wrap64 (i + 1) = i + 1 := w64 (by omega) (by omega)
    obtain ⟨a1, a2, a3, a4⟩ := g i h0
    obtain ⟨b1, b2, b3, b4⟩ := g (i + 1) (by omega)
    have d0 : 0 ≤ Int.tdiv i (l.length : Int) := by rw [Int.tdiv_eq_ediv_of_nonneg h0]; exact Int.ediv_nonneg h0 (by omega)
    have d1 : Int.tdiv i (l.length : Int) ≤ i := by rw [Int.tdiv_eq_ediv_of_nonneg h0]; exact Int.ediv_le_self _ h0
    rw [if_neg c, e1, if_pos a1, if_pos a2, if_pos b1, if_pos b2, if_neg (by omega)]
    generalize rd l (Int.tmod i (l.length : Int)) = x at *
    generalize rd l (Int.tmod (i + 1) (l.length : Int)) = y at *
    generalize Int.tdiv i (l.length : Int) = z at *
    rw [w64 (x := x) (by omega) (by omega), w64 (x := x * 31) (by omega) (by omega), w64 (x := y) (by omega) (by omega), w64 (x := x * 31 + y) (by omega) (by omega), w64 (x := z) (by omega) (by omega), w64 (by omega) (by omega), Int.tmod_eq_emod_of_nonneg (by omega)]
    exact ⟨_, rfl, Int.emod_nonneg _ (by omega), Int.emod_lt_of_pos _ (by omega)⟩

/-! ### What is drawn -/
theorem numbers_loop (s : List Int) (hs : BytesOK s) (n : Nat) : ∀ (out : List Int) (at_ q : Int), 0 ≤ at_ → at_ + 3 * n ≤ 100000000 → SeedOK q → out.length + n ≤ 100000 →
    ∃ r a' q', Ev (fun k => spec_l17Numbers.l0 k out (n : Int) s at_ q) (r, a', q') ∧ at_ ≤ a' ∧ a' ≤ at_ + 3 * n ∧ SeedOK q' ∧ r.length = out.length + n := by
  induction n with
  | zero =>
    intro out at_ q h0 h1 hq ho
    refine ⟨out, at_, q, ?_, by omega, by omega, hq, by omega⟩
    refine Ev.step (fun k => by rw [spec_l17Numbers.l0]) ?_
    exact Ev.neg (by omega) (Ev.now _)
  | succ n ih =>
    intro out at_ q h0 h1 hq ho
    obtain ⟨v, a', q', e, b0, b1, c0, c1, hq'⟩ := src_next s hs at_ q 60 h0 (by omega) hq (by omega)
    obtain ⟨r, a2, q2, hr, d0, d1, hq2, hl⟩ := ih (out ++ [wrap64 (v - 20)]) a' q' (by omega) (by omega) hq' (by simp; omega)
    refine ⟨r, a2, q2, ?_, by omega, by omega, hq2, by rw [hl]; simp; omega⟩
    refine Ev.step (fun k => by rw [spec_l17Numbers.l0]) ?_
    refine Ev.pos (by omega) ?_
    refine Ev.bind (Ev.ofEq e) ?_
    refine Ev.pos (by omega) ?_
    have e1 : wrap64 (((n + 1 : Nat) : Int) - 1) = (n : Int) := by rw [w64 (by omega) (by omega)]; omega
    rw [e1]
    exact hr

theorem size_ex (s : List Int) (hs : BytesOK s) (at_ q : Int) : ∃ v, spec_l01Src_size.f s at_ q 80 = some (v, at_, q) ∧ 0 ≤ v ∧ v ≤ 80 := by
  have hl := hs.1
  unfold spec_l01Src_size.f
  refine ⟨_, rfl, ?_, ?_⟩
  · rw [w64 (x := (s.length : Int) / 12) (by omega) (by omega), w64 (by omega) (by omega)]
    unfold mn
    split <;> omega
  · unfold mn
    split <;> omega

theorem numbers_ex (s : List Int) (hs : BytesOK s) (at_ q : Int) (h0 : 0 ≤ at_) (h1 : at_ ≤ 1000000) (hq : SeedOK q) :
    ∃ r a' q', Ev (fun k => spec_l17Numbers.f k s at_ q) (r, a', q') ∧ at_ ≤ a' ∧ a' ≤ at_ + 1000 ∧ SeedOK q' ∧ r.length ≤ 81 := by
  obtain ⟨z, ez, z0, z1⟩ := size_ex s hs at_ q
  have e1 : wrap64 (z + 1) = z + 1 := w64 (by omega) (by omega)
  obtain ⟨v, a', q', e, b0, b1, c0, c1, hq'⟩ := src_next s hs at_ q (z + 1) h0 (by omega) hq (by omega)
  obtain ⟨n, rfl⟩ : ∃ n : Nat, v = n := ⟨v.toNat, by omega⟩
  obtain ⟨r, a2, q2, hr, d0, d1, hq2, hl⟩ := numbers_loop s hs n [] a' q' (by omega) (by omega) hq' (by simp; omega)
  refine ⟨r, a2, q2, ?_, by omega, by omega, hq2, by rw [hl]; simp; omega⟩
  unfold spec_l17Numbers.f
  refine Ev.bind (Ev.ofEq ez) ?_
  rw [e1]
  exact Ev.bind (Ev.ofEq e) hr

theorem draw_ex (s : List Int) (hs : BytesOK s) : ∃ (l : List Int) (t : Int), Ev (fun k => spec_DrawDigestOf.f k s) (l, t) := by
  obtain ⟨q0, e0, hq0⟩ := src_start s hs.1
  obtain ⟨r, a1, q1, e1, b1, c1, hq1, hl⟩ := numbers_ex s hs 0 q0 (by omega) (by omega) hq0
  obtain ⟨v2, a2, q2, e2, b2, b2', c2, c2', hq2⟩ := src_next s hs a1 q1 9 b1 (by omega) hq1 (by omega)
  obtain ⟨v3, a3, q3, e3, b3, b3', c3, c3', hq3⟩ := src_next s hs a2 q2 20 (by omega) (by omega) hq2 (by omega)
  have main : ∃ p : List Int × Int, Ev (fun k => spec_DrawDigestOf.f k s) p := by
    by_cases g0 : v3 = 0
    · obtain ⟨v4, a4, q4, e4, b4, b4', c4, c4', hq4⟩ := src_next s hs a3 q3 3 (by omega) (by omega) hq3 (by omega)
      exact ⟨_, Ev.bind (Ev.ofEq e0) (Ev.bind e1 (Ev.bind (Ev.ofEq e2) (Ev.bind (Ev.ofEq e3) (Ev.pos g0 (Ev.bind (Ev.now _) (Ev.bind (Ev.ofEq e4) (Ev.pos b4 (Ev.pos (by simp; omega) (Ev.now _)))))))))⟩
    · by_cases g1 : v3 = 1
      · obtain ⟨v4, a4, q4, e4, b4, b4', c4, c4', hq4⟩ := src_next s hs a3 q3 4 (by omega) (by omega) hq3 (by omega)
        exact ⟨_, Ev.bind (Ev.ofEq e0) (Ev.bind e1 (Ev.bind (Ev.ofEq e2) (Ev.bind (Ev.ofEq e3) (Ev.neg g0 (Ev.pos g1 (Ev.bind (Ev.now _) (Ev.bind (Ev.ofEq e4) (Ev.pos b4 (Ev.pos (by simp; omega) (Ev.pos (by simp only; omega) (Ev.now _)))))))))))⟩
      · by_cases g2 : v3 = 2
        · obtain ⟨v4, a4, q4, e4, b4, b4', c4, c4', hq4⟩ := src_next s hs a3 q3 3 (by omega) (by omega) hq3 (by omega)
          have ew : wrap64 (1024 + v4) = 1024 + v4 := w64 (by omega) (by omega)
          exact ⟨_, Ev.bind (Ev.ofEq e0) (Ev.bind e1 (Ev.bind (Ev.ofEq e2) (Ev.bind (Ev.ofEq e3) (Ev.neg g0 (Ev.neg g1 (Ev.pos g2 (Ev.bind (Ev.ofEq e4) (Ev.pos (by rw [ew]; omega) (Ev.pos (by rw [ew]; omega) (Ev.now _))))))))))⟩
        · exact ⟨_, Ev.bind (Ev.ofEq e0) (Ev.bind e1 (Ev.bind (Ev.ofEq e2) (Ev.bind (Ev.ofEq e3) (Ev.neg g0 (Ev.neg g1 (Ev.neg g2 (Ev.now _)))))))⟩
  obtain ⟨⟨l, t⟩, h⟩ := main
  exact ⟨l, t, h⟩

/-! ### How many of a list are at most a value -/
def cle (l : List Int) (v : Int) : Nat := l.countP fun x => decide (x ≤ v)
theorem cle_le (l : List Int) (v : Int) : cle l v ≤ l.length := List.countP_le_length
theorem cle_cons (x : Int) (l : List Int) (v : Int) : cle (x :: l) v = cle l v + (if x ≤ v then 1 else 0) := by
  unfold cle
  rw [List.countP_cons]
  simp only [decide_eq_true_eq]
theorem cle_app (a b : List Int) (v : Int) : cle (a ++ b) v = cle a v + cle b v := by unfold cle; rw [List.countP_append]
theorem cle_sort (l : List Int) (v : Int) : cle (l.mergeSort le') v = cle l v := (List.mergeSort_perm l le').countP_eq _
theorem cntFrom_eq (l : List Int) (hl : l.length ≤ 1000000) (v : Int) (d : Nat) : ∀ (i : Nat) (c : Nat), i + d = l.length → c ≤ i → cntFrom l v d i (c : Int) = ((c + cle (l.drop i) v : Nat) : Int) := by
  induction d with
  | zero =>
    intro i c hi hc
    rw [cntFrom, show l.drop i = [] from List.drop_eq_nil_of_le (by omega)]
    rfl
  | succ d ih =>
    intro i c hi hc
    have hd : l.drop i = l.getD i 0 :: l.drop (i + 1) := by
      rw [List.drop_eq_getElem_cons (by omega), List.getD_eq_getElem?_getD, List.getElem?_eq_getElem (by omega)]; rfl
    rw [cntFrom, hd, cle_cons]
    by_cases g : l.getD i 0 ≤ v
    · rw [if_pos g, if_pos g]
      have e : wrap64 ((c : Int) + 1) = ((c + 1 : Nat) : Int) := by rw [w64 (by omega) (by omega)]; omega
      rw [e, ih (i + 1) (c + 1) (by omega) (by omega)]
      omega
    · rw [if_neg g, if_neg g, ih (i + 1) c (by omega) (by omega)]
      omega
theorem cntFrom_all (l : List Int) (hl : l.length ≤ 1000000) (v : Int) : cntFrom l v l.length 0 0 = (cle l v : Int) := by
  have := cntFrom_eq l hl v l.length 0 0 (by omega) (by omega)
  rw [List.drop_zero, Nat.zero_add] at this
  exact this

theorem sorted_cons {x : Int} {l : List Int} (h : (x :: l).Pairwise fun a b => le' a b = true) : (∀ y ∈ l, x ≤ y) ∧ l.Pairwise fun a b => le' a b = true := by
  obtain ⟨h1, h2⟩ := List.pairwise_cons.1 h
  exact ⟨fun y hy => of_decide_eq_true (h1 y hy), h2⟩
theorem cle_zero (l : List Int) (v : Int) (h : ∀ y ∈ l, v < y) : cle l v = 0 := by
  unfold cle
  rw [List.countP_eq_zero]
  intro y hy
  have := h y hy
  simp; omega
/-- In a sorted list the places whose numbers are at most v are the first ones. -/
theorem sorted_place (l : List Int) : l.Pairwise (fun a b => le' a b = true) → ∀ (v : Int) (i : Nat), i < l.length → (l.getD i 0 ≤ v ↔ i < cle l v) := by
  induction l with
  | nil => intro _ v i hi; simp at hi
  | cons x l ih =>
    intro h v i hi
    obtain ⟨h1, h2⟩ := sorted_cons h
    rw [cle_cons]
    cases i with
    | zero =>
      rw [List.getD_cons_zero]
      by_cases g : x ≤ v
      · rw [if_pos g]; omega
      · rw [if_neg g, cle_zero l v (fun y hy => by have := h1 y hy; omega)]; omega
    | succ i =>
      rw [List.getD_cons_succ]
      have := ih h2 v i (by simp at hi; omega)
      by_cases g : x ≤ v
      · rw [if_pos g, this]; omega
      · rw [if_neg g, cle_zero l v (fun y hy => by have := h1 y hy; omega)]
        have hm : l.getD i 0 ∈ l := by
          rw [List.getD_eq_getElem?_getD, List.getElem?_eq_getElem (by simp at hi; omega)]
          exact List.getElem_mem _
        have := h1 _ hm
        omega
theorem getD_mem (l : List Int) (i : Nat) (h : i < l.length) : l.getD i 0 ∈ l := by
  rw [List.getD_eq_getElem?_getD, List.getElem?_eq_getElem h]
  exact List.getElem_mem _
theorem sorted_mono (l : List Int) (h : l.Pairwise fun a b => le' a b = true) (i j : Nat) (hij : i ≤ j) (hj : j < l.length) : l.getD i 0 ≤ l.getD j 0 := by
  have hi := (sorted_place l h (l.getD j 0) j hj).1 (Int.le_refl _)
  exact (sorted_place l h (l.getD j 0) i (by omega)).2 (by omega)
theorem count_range (m c : Nat) : (List.range c).countP (fun j => decide (j < m)) = min m c := by
  induction c with
  | zero => simp
  | succ c ih =>
    rw [List.range_succ, List.countP_append, ih]
    by_cases h : c < m
    · rw [List.countP_cons_of_pos (by simpa using h)]; simp; omega
    · rw [List.countP_cons_of_neg (by simpa using h)]; simp; omega
theorem ceil_lt (n s j : Nat) (hs : 1 ≤ s) : j < (n + s - 1) / s ↔ j * s < n := by
  have := Nat.le_div_iff_mul_le (x := j + 1) (y := n + s - 1) (k := s) (by omega)
  rw [Nat.succ_mul] at this
  rw [← Nat.succ_le_iff, Nat.succ_eq_add_one, this]
  generalize j * s = m
  omega
/-- Of the points the share that is at most v. -/
theorem cle_pts (m : List Int) (hm : m.Pairwise fun a b => le' a b = true) (s : Nat) (hs : 1 ≤ s) (v : Int) : cle (ptsTo m s (cntPts m s)) v = (cle m v + s - 1) / s := by
  unfold ptsTo cle
  rw [List.countP_map]
  have e : (List.range (cntPts m s)).countP ((fun x => decide (x ≤ v)) ∘ fun i => m.getD (i * s) 0) = (List.range (cntPts m s)).countP (fun j => decide (j < (cle m v + s - 1) / s)) := by
    apply List.countP_congr
    intro j hj
    have hj' := (lt_cnt m s j hs).1 (List.mem_range.1 hj)
    simp only [Function.comp, decide_eq_true_eq]
    rw [sorted_place m hm v (j * s) hj', ceil_lt (cle m v) s j hs]
  rw [e, count_range]
  have hle : (cle m v + s - 1) / s ≤ cntPts m s := by
    unfold cntPts
    apply Nat.div_le_div_right
    have := cle_le m v
    omega
  unfold cle at hle ⊢
  omega
theorem ceil_bounds (n s : Nat) (hs : 1 ≤ s) : n ≤ (n + s - 1) / s * s ∧ (n + s - 1) / s * s ≤ n + s - 1 := by
  have h1 := Nat.div_mul_le_self (n + s - 1) s
  have h2 := Nat.lt_div_mul_add (a := n + s - 1) (b := s) (by omega)
  generalize (n + s - 1) / s * s = q at *
  omega

/-! ### A digest that is one -/
theorem pts_ok (l : List Int) (hs : l.Pairwise fun a b => le' a b = true) (hb : ∀ x ∈ l, -1000000000000 ≤ x ∧ x ≤ 1000000000000) (d : Nat) : ∀ i : Nat, i + d = l.length → ptsFrom l d i = true := by
  induction d with
  | zero => intro i hi; rfl
  | succ d ih =>
    intro i hi
    rw [ptsFrom, ih (i + 1) (by omega), Bool.and_true]
    unfold ptOK
    obtain ⟨b1, b2⟩ := hb _ (getD_mem l i (by omega))
    refine decide_eq_true ⟨b1, b2, ?_⟩
    by_cases c : i = 0
    · exact .inl c
    · exact .inr (sorted_mono l hs (i - 1) i (by omega) (by omega))
theorem mid_ok (s p c : Int) (n : Nat) (hs : 1 ≤ s) (hc : 0 ≤ c) (h1 : c ≤ (n : Int) * s) (h2 : (n : Int) * s ≤ c + p * (s - 1)) (h3 : (n : Int) ≤ c) : dMid s p c n = true := by
  unfold dMid
  refine decide_eq_true ⟨h3, ?_, ?_⟩
  · unfold dLeast
    have e := Int.mul_ediv_add_emod c s
    have r0 := Int.emod_nonneg c (show s ≠ 0 by omega)
    have r1 := Int.emod_lt_of_pos c (show 0 < s by omega)
    by_cases g : c % s > 0
    · rw [if_pos g]
      have h4 : (c / s) * s < (n : Int) * s := by
        rw [Int.mul_comm (c / s) s]
        omega
      have := Int.lt_of_mul_lt_mul_right h4 (by omega)
      omega
    · rw [if_neg g]
      have h4 : (c / s) * s ≤ (n : Int) * s := by
        rw [Int.mul_comm (c / s) s]
        omega
      have := Int.le_of_mul_le_mul_right h4 (by omega)
      omega
  · unfold dMost
    exact (Int.le_ediv_iff_mul_le (by omega)).2 h2

structure Good (l : List Int) (s : Nat) : Prop where
  len : l.length ≤ 4096
  s1 : 1 ≤ s
  s2 : s ≤ 4096
  num : ∀ x ∈ l, -1000000000000 ≤ x ∧ x ≤ 1000000000000
def pt (l : List Int) (s : Nat) : List Int := ptsTo (l.mergeSort le') s (cntPts l s)
theorem pt_len (l : List Int) (s : Nat) : (pt l s).length = (l.length + s - 1) / s := by unfold pt; rw [ptsTo_length]; rfl
theorem pt_cle (l : List Int) (s : Nat) (h : Good l s) (v : Int) : cle (pt l s) v = (cle l v + s - 1) / s := by
  have := cle_pts (l.mergeSort le') (sorted_ms l) s h.s1 v
  rw [cnt_sort, cle_sort] at this
  exact this
theorem pt_mem (l : List Int) (s : Nat) (h : Good l s) (x : Int) (hx : x ∈ pt l s) : x ∈ l := by
  unfold pt ptsTo at hx
  obtain ⟨j, hj, rfl⟩ := List.mem_map.1 hx
  have hj' := (lt_cnt l s j h.s1).1 (List.mem_range.1 hj)
  exact (List.mergeSort_perm l le').mem_iff.1 (getD_mem _ _ (by rw [List.length_mergeSort]; exact hj'))
theorem pt_sorted (l : List Int) (s : Nat) (h : Good l s) : (pt l s).Pairwise fun a b => le' a b = true := by
  unfold pt ptsTo
  rw [List.pairwise_map]
  refine List.Pairwise.imp_of_mem ?_ List.pairwise_lt_range
  intro a b ha hb hab
  have hb' := (lt_cnt l s b h.s1).1 (List.mem_range.1 hb)
  have hm : a * s ≤ b * s := Nat.mul_le_mul_right s (by omega)
  exact decide_eq_true (sorted_mono _ (sorted_ms l) (a * s) (b * s) hm (by rw [List.length_mergeSort]; exact hb'))
theorem pt_ok (l : List Int) (s : Nat) (h : Good l s) (h5 : (pt l s).length ≤ 512) : dOK (s : Int) 1 (l.length : Int) (pt l s) = true := by
  obtain ⟨g1, g2, g3, g4⟩ := h
  have hb := ceil_bounds l.length s g2
  rw [← pt_len] at hb
  have hle : (pt l s).length ≤ l.length := by unfold pt; rw [ptsTo_length]; exact cnt_le l s g2
  have hbi : ((l.length : Nat) : Int) ≤ ((pt l s).length : Int) * (s : Int) := by exact_mod_cast hb.1
  have hbj : ((pt l s).length : Int) * (s : Int) ≤ (l.length : Int) + (s : Int) - 1 := by
    have : (((pt l s).length * s : Nat) : Int) ≤ ((l.length + s - 1 : Nat) : Int) := Int.ofNat_le.2 hb.2
    rw [Int.natCast_mul] at this
    omega
  unfold dOK
  rw [Bool.and_eq_true, Bool.and_eq_true]
  refine ⟨?_, ?_, pts_ok _ (pt_sorted l s ⟨g1, g2, g3, g4⟩) (fun x hx => g4 x (pt_mem l s ⟨g1, g2, g3, g4⟩ x hx)) _ 0 (by omega)⟩
  · unfold dHead
    exact decide_eq_true (by omega)
  · exact mid_ok _ _ _ _ (by omega) (by omega) hbi (by omega) (by omega)

/-- What rank tells of a digest that is one. -/
theorem rank_of (s p c : Int) (l : List Int) (v : Int) (h : dOK s p c l = true) : rankTell s p c l v = rankOf s p c (cle l v : Int) := by
  obtain ⟨_, _, _, _, _, _, a7⟩ := ok_head s p c l h
  unfold rankTell
  rw [if_pos h, cntFrom_all l (by omega) v]

/-- One digest: rank's bounds. -/
theorem rank_one (l : List Int) (s : Nat) (h : Good l s) (h5 : (pt l s).length ≤ 512) (v : Int) :
    ∃ lo hi, rankTell (s : Int) 1 (l.length : Int) (pt l s) v = (lo, hi, 0) ∧ lo ≤ (cle l v : Int) ∧ (cle l v : Int) ≤ hi ∧ (hi - lo < (s : Int) ∨ hi ≤ 0) ∧ -1000000000 ≤ lo ∧ lo ≤ 1000000000 ∧ -1000000000 ≤ hi ∧ hi ≤ 1000000000 := by
  rw [rank_of _ _ _ _ _ (pt_ok l s h h5), pt_cle l s h v]
  obtain ⟨b1, b2⟩ := ceil_bounds (cle l v) s h.s1
  have hk : (cle l v + s - 1) / s ≤ 512 := by
    rw [← pt_cle l s h v]
    exact Nat.le_trans (cle_le _ _) h5
  have hn := cle_le l v
  obtain ⟨g1, g2, g3, g4⟩ := h
  generalize hK : (cle l v + s - 1) / s = K at *
  have hm : ((K : Int) * (s : Int)) = ((K * s : Nat) : Int) := by rw [Int.natCast_mul]
  have h0 : K = 0 → K * s = 0 := fun e => by rw [e]; exact Nat.zero_mul s
  generalize hM : K * s = M at *
  unfold rankOf
  rw [hm]
  have e1 : wrap64 ((M : Nat) : Int) = (M : Int) := w64 (by omega) (by omega)
  rw [e1]
  clear e1
  have e2 : wrap64 ((s : Int) - 1) = (s : Int) - 1 := w64 (by omega) (by omega)
  rw [e2]
  clear e2 hm
  by_cases c : K = 0
  · have em : mn 1 (K : Int) = 0 := by unfold mn; rw [c]; rfl
    rw [em, Int.mul_zero]
    have e3 : Aside0 (wrap64 0 = 0) := ⟨w64 (by omega) (by omega)⟩
    rw [e3.out, w64 (by omega) (by omega)]
    have := h0 c
    refine ⟨_, _, rfl, by omega, ?_, .inr ?_, by omega, by omega, ?_, ?_⟩ <;> (unfold mn; split <;> omega)
  · have em : mn 1 (K : Int) = 1 := by unfold mn; rw [if_neg (by omega)]
    rw [em, Int.mul_one, w64 (x := (s : Int) - 1) (by omega) (by omega), w64 (by omega) (by omega)]
    refine ⟨_, _, rfl, by omega, ?_, .inl ?_, by omega, by omega, ?_, ?_⟩ <;> (unfold mn; split <;> omega)

/-- Two digests joined. -/
theorem join_ok (a b : List Int) (s : Nat) (ha : Good a s) (hb : Good b s) (h5 : (pt a s).length + (pt b s).length ≤ 512) :
    dOK (s : Int) 2 ((a.length : Int) + (b.length : Int)) ((pt a s ++ pt b s).mergeSort le') = true := by
  have ca := ceil_bounds a.length s ha.s1
  have cb := ceil_bounds b.length s hb.s1
  rw [← pt_len] at ca cb
  have la : (pt a s).length ≤ a.length := by unfold pt; rw [ptsTo_length]; exact cnt_le a s ha.s1
  have lb : (pt b s).length ≤ b.length := by unfold pt; rw [ptsTo_length]; exact cnt_le b s hb.s1
  have hmem : ∀ x ∈ (pt a s ++ pt b s).mergeSort le', -1000000000000 ≤ x ∧ x ≤ 1000000000000 := by
    intro x hx
    rcases List.mem_append.1 ((List.mergeSort_perm _ le').mem_iff.1 hx) with h | h
    · exact ha.num x (pt_mem a s ha x h)
    · exact hb.num x (pt_mem b s hb x h)
  obtain ⟨g1, g2, g3, g4⟩ := ha
  obtain ⟨k1, k2, k3, k4⟩ := hb
  have hlen : ((pt a s ++ pt b s).mergeSort le').length = (pt a s).length + (pt b s).length := by rw [List.length_mergeSort, List.length_append]
  unfold dOK
  rw [Bool.and_eq_true, Bool.and_eq_true]
  refine ⟨?_, ?_, pts_ok _ (sorted_ms _) hmem _ 0 (by omega)⟩
  · unfold dHead
    rw [hlen]
    exact decide_eq_true (by omega)
  · rw [hlen]
    generalize (pt a s).length = x at *
    generalize (pt b s).length = y at *
    have e : (((x + y : Nat) : Int)) * (s : Int) = ((x * s : Nat) : Int) + ((y * s : Nat) : Int) := by
      rw [Int.natCast_mul, Int.natCast_mul, ← Int.add_mul]; rfl
    generalize x * s = X at *
    generalize y * s = Y at *
    exact mid_ok _ _ _ _ (by omega) (by omega) (by rw [e]; omega) (by rw [e]; omega) (by omega)
set_option maxHeartbeats 1000000 in
theorem rank_two (a b : List Int) (s : Nat) (ha : Good a s) (hb : Good b s) (h5 : (pt a s).length + (pt b s).length ≤ 512) (v : Int) :
    ∃ lo hi, rankTell (s : Int) 2 ((a.length : Int) + (b.length : Int)) ((pt a s ++ pt b s).mergeSort le') v = (lo, hi, 0) ∧ lo ≤ (cle a v : Int) + (cle b v : Int) ∧ (cle a v : Int) + (cle b v : Int) ≤ hi := by
  rw [rank_of _ _ _ _ _ (join_ok a b s ha hb h5), cle_sort, cle_app, pt_cle a s ha v, pt_cle b s hb v]
  obtain ⟨x1, x2⟩ := ceil_bounds (cle a v) s ha.s1
  obtain ⟨y1, y2⟩ := ceil_bounds (cle b v) s hb.s1
  have kx : (cle a v + s - 1) / s ≤ 512 := by rw [← pt_cle a s ha v]; exact Nat.le_trans (cle_le _ _) (by omega)
  have ky : (cle b v + s - 1) / s ≤ 512 := by rw [← pt_cle b s hb v]; exact Nat.le_trans (cle_le _ _) (by omega)
  have na := cle_le a v
  have nb := cle_le b v
  obtain ⟨g1, g2, g3, g4⟩ := ha
  obtain ⟨k1, k2, k3, k4⟩ := hb
  generalize (cle a v + s - 1) / s = A at *
  generalize (cle b v + s - 1) / s = B at *
  have hm : (((A + B : Nat) : Int)) * (s : Int) = ((A * s : Nat) : Int) + ((B * s : Nat) : Int) := by
    rw [Int.natCast_mul, Int.natCast_mul, ← Int.add_mul]; rfl
  have hA : A = 0 → A * s = 0 := fun e => by rw [e]; exact Nat.zero_mul s
  have hB : B = 0 → B * s = 0 := fun e => by rw [e]; exact Nat.zero_mul s
  unfold rankOf
  rw [hm]
  generalize A * s = X at *
  generalize B * s = Y at *
  have e1 : wrap64 ((X : Int) + (Y : Int)) = (X : Int) + (Y : Int) := w64 (by omega) (by omega)
  rw [e1]
  clear e1
  have e2 : wrap64 ((s : Int) - 1) = (s : Int) - 1 := w64 (by omega) (by omega)
  rw [e2]
  clear e2 hm
  by_cases c0 : A + B = 0
  · have em : mn 2 (((A + B : Nat)) : Int) = 0 := by unfold mn; rw [c0]; rfl
    have z1 := hA (by omega)
    have z2 := hB (by omega)
    have e3 : Aside0 (wrap64 0 = 0) := ⟨w64 (by omega) (by omega)⟩
    rw [em, Int.mul_zero, e3.out, w64 (by omega) (by omega)]
    exact ⟨_, _, rfl, by omega, by unfold mn; split <;> omega⟩
  · by_cases c1 : A + B = 1
    · have em : mn 2 (((A + B : Nat)) : Int) = 1 := by unfold mn; rw [c1]; rfl
      rw [em, Int.mul_one, w64 (x := (s : Int) - 1) (by omega) (by omega), w64 (by omega) (by omega)]
      refine ⟨_, _, rfl, ?_, by unfold mn; split <;> omega⟩
      by_cases z : A = 0
      · have := hA z
        omega
      · have := hB (by omega)
        omega
    · have em : mn 2 (((A + B : Nat)) : Int) = 2 := by unfold mn; rw [if_neg (by omega)]
      have e3 : Aside0 (wrap64 (((s : Int) - 1) * 2) = ((s : Int) - 1) * 2) := ⟨w64 (by omega) (by omega)⟩
      rw [em, e3.out, w64 (by omega) (by omega)]
      exact ⟨_, _, rfl, by omega, by unfold mn; split <;> omega⟩

/-! ### The law -/
theorem tell_ok (l : List Int) (t : Int) (h : (digTell l t).2.2.2.2 = 0) : ∃ s : Nat, t = (s : Int) ∧ Good l s ∧ (pt l s).length ≤ 512 ∧ digTell l t = ((s : Int), 1, (l.length : Int), pt l s, 0) := by
  unfold digTell at h ⊢
  by_cases c1 : l.length > 4096
  · rw [if_pos c1] at h; simp at h
  · rw [if_neg c1] at h ⊢
    by_cases c2 : t < 1 ∨ t > 4096 ∨ l.any badNum = true
    · rw [if_pos c2] at h; simp at h
    · rw [if_neg c2] at h ⊢
      by_cases c3 : cntPts l t.toNat > 512
      · rw [if_pos c3] at h; simp at h
      · rw [if_neg c3]
        have t1 : ¬ t < 1 := fun h => c2 (.inl h)
        have t2 : ¬ t > 4096 := fun h => c2 (.inr (.inl h))
        refine ⟨t.toNat, by omega, ⟨by omega, by omega, by omega, fun x hx => ?_⟩, by unfold pt; rw [ptsTo_length]; omega, by rw [Int.toNat_of_nonneg (by omega)]; rfl⟩
        have hb : badNum x = false := by
          rw [Bool.eq_false_iff]
          exact fun hb => c2 (.inr (.inr (List.any_eq_true.2 ⟨x, hx, hb⟩)))
        unfold badNum at hb
        simp at hb
        omega
theorem tell_good (l : List Int) (s : Nat) (g : Good l s) (h : (pt l s).length ≤ 512) : digTell l (s : Int) = ((s : Int), 1, (l.length : Int), pt l s, 0) := by
  obtain ⟨g1, g2, g3, g4⟩ := g
  unfold digTell
  have nb : ¬ l.any badNum = true := by
    rw [List.any_eq_true]
    rintro ⟨x, hx, hb⟩
    have := g4 x hx
    unfold badNum at hb
    simp at hb
    omega
  have hc : cntPts l s ≤ 512 := by unfold pt at h; rwa [ptsTo_length] at h
  rw [if_neg (by omega), if_neg (fun h => h.elim (by omega) fun h => h.elim (by omega) nb), Int.toNat_natCast, if_neg (by omega)]
  rfl
theorem good_take (l : List Int) (s n : Nat) (g : Good l s) : Good (l.take n) s := ⟨by rw [List.length_take]; have := g.len; omega, g.s1, g.s2, fun x hx => g.num x (List.mem_of_mem_take hx)⟩
theorem good_drop (l : List Int) (s n : Nat) (g : Good l s) : Good (l.drop n) s := ⟨by rw [List.length_drop]; have := g.len; omega, g.s1, g.s2, fun x hx => g.num x (List.mem_of_mem_drop hx)⟩
theorem pt_short (l m : List Int) (s : Nat) (hs : m.length ≤ l.length) (h : (pt l s).length ≤ 512) : (pt m s).length ≤ 512 := by
  rw [pt_len] at *
  exact Nat.le_trans (Nat.div_le_div_right (by omega)) h

theorem half_ex (l1 : List Int) (h1 : BytesOK l1) (n : Nat) (hn : n ≤ 4096) : ∃ h : Nat, laws_at.f l1 0 (wrap64 ((n : Int) + 1)) = some (h : Int) ∧ h ≤ n := by
  have e : wrap64 ((n : Int) + 1) = (n : Int) + 1 := w64 (by omega) (by omega)
  rw [e]
  by_cases c : n = 0
  · subst c
    refine ⟨0, ?_, Nat.le_refl _⟩
    unfold laws_at.f
    rw [if_pos (by omega)]; rfl
  · obtain ⟨v, hv, v0, v1⟩ := at_ex l1 h1 0 ((n : Int) + 1) (by omega) (by omega) (by omega) (by omega)
    exact ⟨v.toNat, by rw [hv, Int.toNat_of_nonneg v0], by omega⟩

theorem some_loop (x : Int) (l : List Int) (hl : l.length ≤ 4096) (d : Nat) : ∀ (i : Nat) (b : Bool), i + d = l.length → (b = true ∨ x ∈ l.drop i) → Ev (fun k => laws_FnDigest.l2 k l x 0 b (i : Int)) true := by
  induction d with
  | zero =>
    intro i b hi hb
    refine Ev.step (fun k => by rw [laws_FnDigest.l2]) ?_
    refine Ev.neg (by omega) ?_
    refine Ev.pos rfl ?_
    rcases hb with rfl | hb
    · exact Ev.now _
    · rw [List.drop_eq_nil_of_le (by omega)] at hb; cases hb
  | succ d ih =>
    intro i b hi hb
    have e : wrap64 ((i : Int) + 1) = ((i + 1 : Nat) : Int) := by rw [w64 (by omega) (by omega)]; omega
    refine Ev.step (fun k => by rw [laws_FnDigest.l2]) ?_
    refine Ev.pos (by omega) ?_
    rw [e]
    by_cases c : b = true
    · exact Ev.pos c (ih (i + 1) true (by omega) (.inl rfl))
    · refine Ev.neg c ?_
      refine Ev.pos (by omega) ?_
      rw [rd_nat]
      refine ih (i + 1) _ (by omega) ?_
      rcases hb with h | h
      · exact absurd h c
      · rw [List.drop_eq_getElem_cons (by omega)] at h
        rcases List.mem_cons.1 h with h | h
        · left
          rw [h, List.getD_eq_getElem?_getD, List.getElem?_eq_getElem (by omega)]
          simp
        · exact .inr h

section
variable (l1 : List Int) (h1 : BytesOK l1) (l : List Int) (s : Nat) (g : Good l s) (h5 : (pt l s).length ≤ 512)
  (e : Int) (js jp jc : Int) (jl : List Int)
  (hj : e = 0 → ∀ v, ∃ lo hi, rankTell js jp jc jl v = (lo, hi, 0) ∧ lo ≤ (cle l v : Int) ∧ (cle l v : Int) ≤ hi)
include h1 g h5 in
theorem law_end (v : Int) (hv : 45 < v) : Ev (fun k => laws_FnDigest.l0 k l1 l (s : Int) e v (s : Int) 1 (l.length : Int) (pt l s) js jp jc jl) true := by
  have hok := pt_ok l s g h5
  have hlen := g.len
  obtain ⟨t, ht, t0, t1⟩ := at_ex l1 h1 1 101 (by omega) (by omega) (by omega) (by omega)
  refine Ev.step (fun k => by rw [laws_FnDigest.l0]) ?_
  refine Ev.neg (by omega) ?_
  refine Ev.bind (Ev.ofEq ht) ?_
  refine Ev.bind (impl_At_eq _ _ _ _ t) ?_
  unfold atTell
  rw [if_pos hok, if_neg (by omega)]
  by_cases c : (l.length : Int) = 0
  · rw [if_pos c]
    exact Ev.pos c (Ev.now _)
  · rw [if_neg c]
    refine Ev.neg c ?_
    obtain ⟨_, i0, i1⟩ := at_index _ _ _ _ hok c t t0 (by omega)
    obtain ⟨j, hj2⟩ : ∃ j : Nat, t * (((pt l s).length : Int) - 1) / 100 = j := ⟨(t * (((pt l s).length : Int) - 1) / 100).toNat, by omega⟩
    rw [hj2] at i0 i1 ⊢
    rw [rd_nat]
    exact some_loop _ l hlen l.length 0 false (by omega) (.inr (pt_mem l s g _ (getD_mem _ _ (by omega))))
include g h5 hj in
theorem law_val (v : Int) (hv0 : -25 ≤ v) (hv : v ≤ 45) (hnext : Ev (fun k => laws_FnDigest.l0 k l1 l (s : Int) e (v + 1) (s : Int) 1 (l.length : Int) (pt l s) js jp jc jl) true) (d : Nat) :
    ∀ (i c : Nat), i + d = l.length → c ≤ i → c + cle (l.drop i) v = cle l v → Ev (fun k => laws_FnDigest.l1 k l1 l (s : Int) e v (c : Int) (i : Int) (s : Int) 1 (l.length : Int) (pt l s) js jp jc jl) true := by
  have hlen := g.len
  induction d with
  | zero =>
    intro i c hi hc hq
    rw [show l.drop i = [] from List.drop_eq_nil_of_le (by omega), show cle [] v = 0 from rfl, Nat.add_zero] at hq
    refine Ev.step (fun k => by rw [laws_FnDigest.l1]) ?_
    refine Ev.neg (by omega) ?_
    refine Ev.bind (impl_Rank_eq _ _ _ _ v) ?_
    obtain ⟨lo, hi', hr, r1, r2, r3, r4, r5, r6, r7⟩ := rank_one l s g h5 v
    rw [hr, hq]
    refine Ev.pos rfl ?_
    refine Ev.neg (by simp only; omega) ?_
    refine Ev.neg (by simp only; omega) ?_
    have ew : wrap64 (hi' - lo) = hi' - lo := w64 (by omega) (by omega)
    have j4 : Ev (fun k => laws_FnDigest.j4 k l1 l (s : Int) e v (cle l v : Int) false (s : Int) 1 (l.length : Int) (pt l s) js jp jc jl) true := by
      refine Ev.step (fun k => by rw [laws_FnDigest.j4]) ?_
      refine Ev.neg Bool.false_ne_true ?_
      refine Ev.bind (impl_Rank_eq _ _ _ _ v) ?_
      have e2 : wrap64 (v + 1) = v + 1 := w64 (by omega) (by omega)
      rw [e2]
      by_cases ce : e = 0
      · refine Ev.pos ce ?_
        obtain ⟨lo2, hi2, q1, q2, q3⟩ := hj ce v
        rw [q1]
        refine Ev.pos rfl ?_
        refine Ev.neg (by simp only; omega) ?_
        exact Ev.neg (by simp only; omega) hnext
      · exact Ev.neg ce hnext
    simp only
    rw [ew]
    by_cases cg : hi' - lo ≥ (s : Int)
    · refine Ev.pos cg ?_
      rw [decide_eq_false (show ¬ hi' > 0 by omega)]
      exact j4
    · exact Ev.neg cg j4
  | succ d ih =>
    intro i c hi hc hq
    have hd : l.drop i = l.getD i 0 :: l.drop (i + 1) := by
      rw [List.drop_eq_getElem_cons (by omega), List.getD_eq_getElem?_getD, List.getElem?_eq_getElem (by omega)]; rfl
    rw [hd, cle_cons] at hq
    have e1 : wrap64 ((i : Int) + 1) = ((i + 1 : Nat) : Int) := by rw [w64 (by omega) (by omega)]; omega
    have e2 : wrap64 ((c : Int) + 1) = ((c + 1 : Nat) : Int) := by rw [w64 (by omega) (by omega)]; omega
    refine Ev.step (fun k => by rw [laws_FnDigest.l1]) ?_
    refine Ev.pos (by omega) ?_
    refine Ev.pos (by omega) ?_
    rw [rd_nat, e1]
    by_cases q : l.getD i 0 ≤ v
    · rw [if_pos q] at hq
      refine Ev.pos q ?_
      rw [e2]
      exact ih (i + 1) (c + 1) (by omega) (by omega) (by omega)
    · rw [if_neg q] at hq
      exact Ev.neg q (ih (i + 1) c (by omega) (by omega) (by omega))
include h1 g h5 hj in
theorem law_loop (d : Nat) : ∀ v : Int, -25 ≤ v → v + d = 46 → Ev (fun k => laws_FnDigest.l0 k l1 l (s : Int) e v (s : Int) 1 (l.length : Int) (pt l s) js jp jc jl) true := by
  induction d with
  | zero => intro v h0 hv; exact law_end l1 h1 l s g h5 e js jp jc jl v (by omega)
  | succ d ih =>
    intro v h0 hv
    refine Ev.step (fun k => by rw [laws_FnDigest.l0]) ?_
    refine Ev.pos (by omega) ?_
    have := law_val l1 l s g h5 e js jp jc jl hj v h0 (by omega) (ih (v + 1) (by omega) (by omega)) l.length 0 0 (by omega) (Nat.le_refl _) (by rw [List.drop_zero, Nat.zero_add])
    exact this
end

theorem bytes_ok (l : List Int) (h : l.length ≤ 1048576) (hw : ∀ x ∈ l, (Lit.int .u8 x).wf = true) : BytesOK l :=
  ⟨h, fun i hi => wf8 (hw _ (getD_mem l i hi))⟩

theorem law_main (l0 l1 : List Int) (b0 : BytesOK l0) (b1 : BytesOK l1) : Ev (fun k => laws_FnDigest.j0 k l0 l1 false) true := by
  obtain ⟨l, t, hd⟩ := draw_ex l0 b0
  obtain ⟨hs, hi⟩ := digestOf_eq l t
  refine Ev.step (fun k => by rw [laws_FnDigest.j0]) ?_
  refine Ev.neg Bool.false_ne_true ?_
  refine Ev.bind hd ?_
  refine Ev.bind hs ?_
  refine Ev.bind hi ?_
  refine Ev.pos rfl ?_
  by_cases c : (digTell l t).2.2.2.2 = 0
  · refine Ev.pos c ?_
    obtain ⟨s, rfl, g, h5, ht⟩ := tell_ok l t c
    have hlen := g.len
    obtain ⟨h, hh, hle⟩ := half_ex l1 b1 l.length (by omega)
    refine Ev.bind (Ev.ofEq hh) ?_
    refine Ev.pos (by omega) ?_
    refine Ev.pos (by simp only; omega) ?_
    rw [Int.toNat_natCast]
    have ga := good_take l s h g
    have gb := good_drop l s h g
    have pa := pt_short l (l.take h) s (by rw [List.length_take]; omega) h5
    have pb := pt_short l (l.drop h) s (by rw [List.length_drop]; omega) h5
    have da := (digestOf_eq (l.take h) (s : Int)).2
    have db := (digestOf_eq (l.drop h) (s : Int)).2
    rw [tell_good _ s ga pa] at da
    rw [tell_good _ s gb pb] at db
    rw [ht]
    refine Ev.bind da ?_
    refine Ev.bind db ?_
    refine Ev.bind (impl_join_eq _ _ _ _ _ _ _ _) ?_
    have oa := pt_ok _ s ga pa
    have ob := pt_ok _ s gb pb
    have la : (l.take h).length = h := by rw [List.length_take]; omega
    have lb : (l.drop h).length = l.length - h := List.length_drop
    have hok := pt_ok l s g h5
    have hsp := spec_DigestOK_eq (s : Int) 1 (l.length : Int) (pt l s)
    rw [hok] at hsp
    have hcle : ∀ v, cle (l.take h) v + cle (l.drop h) v = cle l v := fun v => by rw [← cle_app, List.take_append_drop]
    unfold joinTell
    rw [if_pos ⟨oa, ob⟩, if_pos ⟨rfl, by simp only; omega, by simp only; omega⟩]
    refine Ev.pos rfl ?_
    refine Ev.pos rfl ?_
    by_cases q : (pt (l.take h) s).length + (pt (l.drop h) s).length ≤ 512
    · rw [if_pos q]
      refine Ev.pos rfl ?_
      refine Ev.pos rfl ?_
      refine Ev.bind hsp ?_
      refine Ev.step (fun k => by rw [laws_FnDigest.j1]) ?_
      refine Ev.neg (by simp) ?_
      refine law_loop l1 b1 l s g h5 0 _ _ _ _ (fun _ v => ?_) 71 (-25) (by omega) (by omega)
      obtain ⟨lo, hi, r1, r2, r3⟩ := rank_two _ _ s ga gb q v
      have := hcle v
      exact ⟨lo, hi, r1, by omega, by omega⟩
    · rw [if_neg q]
      refine Ev.neg (by decide) ?_
      have ew : wrap64 (((pt (l.take h) s).length : Int) + ((pt (l.drop h) s).length : Int)) = ((pt (l.take h) s).length : Int) + ((pt (l.drop h) s).length : Int) := w64 (by omega) (by omega)
      refine Ev.neg (by simp only; rw [ew]; omega) ?_
      refine Ev.pos rfl ?_
      refine Ev.bind hsp ?_
      refine Ev.step (fun k => by rw [laws_FnDigest.j1]) ?_
      refine Ev.neg (by simp) ?_
      exact law_loop l1 b1 l s g h5 11 _ _ _ _ (fun h => absurd h (by decide)) 71 (-25) (by omega) (by omega)
  · exact Ev.neg c (Ev.now _)

theorem FnDigest : laws_FnDigest.Pure := by
  intro l0 l1 _ _ hw0 _ _ hw1
  refine Ev.rounds (g := fun k => laws_FnDigest.f k l0 l1) ?_
  have stop : Ev (fun k => laws_FnDigest.j0 k l0 l1 true) true := by
    refine Ev.step (fun k => by rw [laws_FnDigest.j0]) ?_
    exact Ev.pos rfl (Ev.now _)
  by_cases c0 : (l0.length : Int) > 1048576
  · exact Ev.pos c0 stop
  · refine Ev.neg c0 ?_
    by_cases c1 : (l1.length : Int) > 1048576
    · rw [decide_eq_true c1]
      exact stop
    · rw [decide_eq_false c1]
      exact law_main l0 l1 (bytes_ok l0 (by omega) hw0) (bytes_ok l1 (by omega) hw1)

end Go.Proofs.Ytchoncnahlcfjaa.Pure
