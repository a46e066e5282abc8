/- Whatever two digests, the program's DigestJoin returns what the reference's returns, writes into no argument and hands out memory of its own: the law's function answers true. No condition. -/
import Derived.Test.YtchoncnahlcfjaaXFnExactDigestJoinx8
import Derived.Test.YtchoncnahlcfjaaKit
import Derived.Lib.ItoaNum
import Derived.Lib.Bytes
import Derived.Test.YtchoncnahlcfjaaWfFnExactDigestJoin
set_option linter.unusedSimpArgs false
set_option linter.unusedVariables false
namespace Go.Proofs.Ytchoncnahlcfjaa.Pure
open Go.RowKit Go.Proofs.Ytchoncnahlcfjaa.XFnExactDigestJoin Go.Proofs.YtchoncnahlcfjaaW.PrintWords Go.Proofs.YtchoncnahlcfjaaW.PrintLast Go.Proofs.YtchoncnahlcfjaaW.PrintMore Go.Proofs.Ytchoncnahlcfjaa.Kit

theorem Ev.steps {α : Type} {g f : Nat → Option α} {r : α} (c : Nat) (h : ∀ k, g (k + c) = f k) (k : Ev f r) : Ev g r := by
  obtain ⟨K, hK⟩ := k
  refine ⟨K + c, fun n hn => ?_⟩
  have := h (n - c)
  rw [Nat.sub_add_cancel (by omega)] at this
  rw [this]; exact hK _ (by omega)

theorem Ev.pos {α : Type} {c : Prop} [Decidable c] {f g : Nat → Option α} {r : α} (h : c) (k : Ev f r) : Ev (fun n => if c then f n else g n) r := Ev.congr (fun n => if_pos h) k
theorem Ev.neg {α : Type} {c : Prop} [Decidable c] {f g : Nat → Option α} {r : α} (h : ¬ c) (k : Ev g r) : Ev (fun n => if c then f n else g n) r := Ev.congr (fun n => if_neg h) k
theorem Ev.ofEq {α : Type} {x : Option α} {r : α} (h : x = some r) : Ev (fun _ => x) r := ⟨0, fun _ _ => h⟩
theorem Ev.from {α : Type} {g : Nat → Option α} {r : α} (K : Nat) (h : ∀ k, K < k → g k = some r) : Ev g r := ⟨K + 1, fun k hk => h k (by omega)⟩

theorem n0 : ((0 : Nat) : Int) = 0 := rfl
def ptOK (l : List Int) (i : Nat) : Bool := decide (-1000000000000 ≤ l.getD i 0 ∧ l.getD i 0 ≤ 1000000000000 ∧ (i = 0 ∨ l.getD (i - 1) 0 ≤ l.getD i 0))
def ptsFrom (l : List Int) : Nat → Nat → Bool
  | 0, _ => true
  | d + 1, i => ptOK l i && ptsFrom l d (i + 1)
def dHead (s p c : Int) (n : Nat) : Bool := decide (1 ≤ s ∧ s ≤ 4096 ∧ 1 ≤ p ∧ p ≤ 4096 ∧ 0 ≤ c ∧ c ≤ 4611686018427387903 ∧ n ≤ 512)
def dLeast (s c : Int) : Int := c / s + (if c % s > 0 then 1 else 0)
def dMost (s p c : Int) : Int := (c + p * (s - 1)) / s
def dMid (s p c : Int) (n : Nat) : Bool := decide ((n : Int) ≤ c ∧ dLeast s c ≤ (n : Int) ∧ (n : Int) ≤ dMost s p c)
/-- Whether a digest is one. -/
def dOK (s p c : Int) (l : List Int) : Bool := dHead s p c l.length && (dMid s p c l.length && ptsFrom l l.length 0)

theorem oOk_eq (v : Int) : impl_oOk.f v = some (decide (-1000000000000 ≤ v ∧ v ≤ 1000000000000)) := by
  unfold impl_oOk.f
  split <;> (congr 1; simp; omega)

theorem digest_div (s c : Int) (hs : 1 ≤ s) (hc0 : 0 ≤ c) (hc1 : c ≤ 4611686018427387903) : 0 ≤ c / s ∧ c / s ≤ 4611686018427387903 ∧ wrap64 (Int.tdiv c s) = c / s ∧ Int.tmod c s = c % s := by
  have h0 : 0 ≤ c / s := Int.ediv_nonneg hc0 (by omega)
  have h1 : c / s ≤ c := Int.ediv_le_self _ hc0
  refine ⟨h0, by omega, ?_, Int.tmod_eq_emod_of_nonneg hc0⟩
  rw [Int.tdiv_eq_ediv_of_nonneg hc0]
  generalize c / s = q at *
  exact w64 (by omega) (by omega)

theorem digest_most (s p c : Int) (hs : 1 ≤ s) (hs1 : s ≤ 4096) (hp0 : 1 ≤ p) (hp1 : p ≤ 4096) (hc0 : 0 ≤ c) (hc1 : c ≤ 4611686018427387903) :
    wrap64 (Int.tdiv (wrap64 (c + wrap64 (p * wrap64 (s - 1)))) s) = dMost s p c := by
  have e1 : wrap64 (s - 1) = s - 1 := w64 (by omega) (by omega)
  rw [e1]
  have hm : p * (s - 1) ≤ 4096 * 4095 := Int.mul_le_mul hp1 (by omega) (by omega) (by decide)
  have hm0 : 0 ≤ p * (s - 1) := Int.mul_nonneg (by omega) (by omega)
  unfold dMost
  clear e1
  generalize p * (s - 1) = m at *
  rw [w64 (x := m) (by omega) (by omega), w64 (x := c + m) (by omega) (by omega)]
  have h0 : 0 ≤ (c + m) / s := Int.ediv_nonneg (by omega) (by omega)
  have h1 : (c + m) / s ≤ c + m := Int.ediv_le_self _ (by omega)
  rw [Int.tdiv_eq_ediv_of_nonneg (by omega)]
  generalize (c + m) / s = q at *
  exact w64 (by omega) (by omega)

theorem spec_pts (s p c : Int) (l : List Int) (hl : l.length ≤ 512) (d : Nat) : ∀ i : Nat, i + d = l.length → Ev (fun k => spec_DigestOK.l0 k (l.length : Int) (i : Int) s p c l) (ptsFrom l d i) := by
  induction d with
  | zero =>
    intro i hi
    refine Ev.step (fun k => ?_) (Ev.now _)
    rw [spec_DigestOK.l0, if_neg (by omega), ptsFrom]
  | succ d ih =>
    intro i hi
    have c1 : (i : Int) < (l.length : Int) := by omega
    have e1 : Aside0 (wrap64 ((i : Int) + 1) = ((i + 1 : Nat) : Int)) := ⟨by rw [w64 (by omega) (by omega)]; omega⟩
    rw [ptsFrom]
    by_cases a1 : l.getD i 0 < -1000000000000
    · have : ptOK l i = false := by unfold ptOK; exact decide_eq_false (by omega)
      rw [this, Bool.false_and]
      refine Ev.step (fun k => ?_) (Ev.now _)
      rw [spec_DigestOK.l0, if_pos c1, if_pos (Int.natCast_nonneg _), if_pos c1, rd_nat, if_pos a1]
    · by_cases a2 : l.getD i 0 > 1000000000000
      · have : ptOK l i = false := by unfold ptOK; exact decide_eq_false (by omega)
        rw [this, Bool.false_and]
        refine Ev.step (fun k => ?_) (Ev.now _)
        rw [spec_DigestOK.l0, if_pos c1, if_pos (Int.natCast_nonneg _), if_pos c1, rd_nat, if_neg a1, if_pos a2]
      · by_cases hz : i = 0
        · have : ptOK l i = true := by unfold ptOK; exact decide_eq_true (by omega)
          rw [this, Bool.true_and]
          have c2 : ¬ ((i : Int) > 0) := by omega
          refine Ev.step (fun k => ?_) (ih (i + 1) (by omega))
          rw [spec_DigestOK.l0, if_pos c1, if_pos (Int.natCast_nonneg _), if_pos c1, rd_nat, if_neg a1, if_neg a2, if_neg c2, e1.out]
        · have c2 : (i : Int) > 0 := by omega
          have c3 : ((i - 1 : Nat) : Int) < (l.length : Int) := by omega
          have e2 : Aside0 (wrap64 ((i : Int) - 1) = ((i - 1 : Nat) : Int)) := ⟨by rw [w64 (by omega) (by omega)]; omega⟩
          by_cases a3 : l.getD i 0 < l.getD (i - 1) 0
          · have : ptOK l i = false := by unfold ptOK; exact decide_eq_false (by omega)
            rw [this, Bool.false_and]
            refine Ev.step (fun k => ?_) (Ev.now _)
            rw [spec_DigestOK.l0, if_pos c1, if_pos (Int.natCast_nonneg _), if_pos c1, rd_nat, if_neg a1, if_neg a2, if_pos c2, e2.out, if_pos (Int.natCast_nonneg _), if_pos c3, rd_nat, if_pos a3]
          · have : ptOK l i = true := by unfold ptOK; exact decide_eq_true (by omega)
            rw [this, Bool.true_and]
            refine Ev.step (fun k => ?_) (ih (i + 1) (by omega))
            rw [spec_DigestOK.l0, if_pos c1, if_pos (Int.natCast_nonneg _), if_pos c1, rd_nat, if_neg a1, if_neg a2, if_pos c2, e2.out, if_pos (Int.natCast_nonneg _), if_pos c3, rd_nat, if_neg a3, e1.out]

theorem num_eq (v : Int) : spec_l03Num.f v = some (decide (0 ≤ v ∧ v ≤ 4611686018427387903)) := by
  unfold spec_l03Num.f
  split <;> (congr 1; simp; omega)

theorem spec_DigestOK_eq (s p c : Int) (l : List Int) : Ev (fun k => spec_DigestOK.f k s p c l) (dOK s p c l) := by
  have bad : ∀ x : Bool, x = true → Ev (fun k => spec_DigestOK.j0 k (l.length : Int) x s p c l) false := by
    intro x hx
    refine Ev.step (fun k => ?_) (Ev.now _)
    rw [spec_DigestOK.j0, if_pos hx]
  by_cases hh : dHead s p c l.length = true
  · obtain ⟨h1, h2, h3, h4, h5, h6, h7⟩ := of_decide_eq_true hh
    unfold dOK
    rw [hh, Bool.true_and]
    obtain ⟨q0, q1, q2, q3⟩ := digest_div s c h1 h5 h6
    have hmost := Aside0.mk (digest_most s p c h1 h2 h3 h4 h5 h6)
    have q2' := Aside0.mk q2
    have q3' := Aside0.mk q3
    clear q2 q3
    have hpts := spec_pts s p c l h7 l.length 0 (by omega)
    rw [n0] at hpts
    have hle : Aside0 (wrap64 (c / s + 1) = c / s + 1) := ⟨w64 (by omega) (by omega)⟩
    refine Ev.congr (f := fun k => spec_DigestOK.j0 k (l.length : Int) (decide ((l.length : Int) > c)) s p c l) (fun k => ?_) ?_
    · unfold spec_DigestOK.f
      rw [if_neg (by omega), if_neg (by omega), if_neg (by omega), if_neg (by omega), num_eq, decide_eq_true ⟨h5, h6⟩, Option.bind_some, if_pos rfl, if_neg (by omega)]
    · by_cases hc : (l.length : Int) > c
      · have : dMid s p c l.length = false := by unfold dMid; exact decide_eq_false (by omega)
        rw [this, Bool.false_and]
        exact bad _ (decide_eq_true hc)
      · rw [decide_eq_false hc]
        have hs0 : ¬ (s = 0) := by omega
        have step2 : Ev (fun k => spec_DigestOK.j1 k (l.length : Int) (dLeast s c) s p c l) (dMid s p c l.length && ptsFrom l l.length 0) := by
          by_cases h8 : (l.length : Int) < dLeast s c
          · have : dMid s p c l.length = false := by unfold dMid; exact decide_eq_false (by omega)
            rw [this, Bool.false_and]
            refine Ev.steps 2 (fun k => ?_) (Ev.now _)
            rw [spec_DigestOK.j1, if_pos h8, spec_DigestOK.j2, if_pos rfl]
          · by_cases h9 : (l.length : Int) > dMost s p c
            · have : dMid s p c l.length = false := by unfold dMid; exact decide_eq_false (by omega)
              rw [this, Bool.false_and]
              refine Ev.steps 2 (fun k => ?_) (Ev.now _)
              rw [spec_DigestOK.j1, if_neg h8, if_neg hs0, hmost.out, spec_DigestOK.j2, if_pos (decide_eq_true h9)]
            · have : dMid s p c l.length = true := by unfold dMid; exact decide_eq_true (by omega)
              rw [this, Bool.true_and]
              refine Ev.steps 2 (fun k => ?_) hpts
              rw [spec_DigestOK.j1, if_neg h8, if_neg hs0, hmost.out, decide_eq_false h9, spec_DigestOK.j2, if_neg Bool.false_ne_true]
        refine Ev.step (fun k => ?_) step2
        rw [spec_DigestOK.j0, if_neg Bool.false_ne_true, if_neg hs0, q2'.out, q3'.out, hle.out]
        unfold dLeast
        by_cases hr : c % s > 0
        · rw [if_pos hr, if_pos hr]
        · rw [if_neg hr, if_neg hr, Int.add_zero]
  · have hf : dOK s p c l = false := by unfold dOK; rw [Bool.eq_false_iff.2 hh, Bool.false_and]
    rw [hf]
    have hh' : ¬ (1 ≤ s ∧ s ≤ 4096 ∧ 1 ≤ p ∧ p ≤ 4096 ∧ 0 ≤ c ∧ c ≤ 4611686018427387903 ∧ l.length ≤ 512) := fun h => hh (decide_eq_true h)
    refine Ev.congr (f := fun k => spec_DigestOK.j0 k (l.length : Int) true s p c l) (fun k => ?_) (bad _ rfl)
    unfold spec_DigestOK.f
    by_cases a1 : s < 1
    · rw [if_pos a1]
    · by_cases a2 : s > 4096
      · rw [if_neg a1, if_pos a2]
      · by_cases a3 : p < 1
        · rw [if_neg a1, if_neg a2, if_pos a3]
        · by_cases a4 : p > 4096
          · rw [if_neg a1, if_neg a2, if_neg a3, if_pos a4]
          · rw [if_neg a1, if_neg a2, if_neg a3, if_neg a4, num_eq, Option.bind_some]
            by_cases a5 : 0 ≤ c ∧ c ≤ 4611686018427387903
            · rw [decide_eq_true a5, if_pos rfl, if_pos (by omega)]
            · rw [decide_eq_false a5, if_neg Bool.false_ne_true]

theorem impl_pts (s p c : Int) (l : List Int) (hl : l.length ≤ 512) (r : Bool) (hend : ∀ k, impl_DigestOK.l0 (k + 1) l (l.length : Int) (l.length : Int) s p c l = some r) (d : Nat) : ∀ i : Nat, i + d = l.length →
    Ev (fun k => impl_DigestOK.l0 k l (l.length : Int) (i : Int) s p c l) (ptsFrom l d i && r) := by
  induction d with
  | zero =>
    intro i hi
    obtain rfl : i = l.length := by omega
    rw [ptsFrom, Bool.true_and]
    exact Ev.step (fun k => hend k) (Ev.now _)
  | succ d ih =>
    intro i hi
    have c1 : (i : Int) < (l.length : Int) := by omega
    have e1 : Aside0 (wrap64 ((i : Int) + 1) = ((i + 1 : Nat) : Int)) := ⟨by rw [w64 (by omega) (by omega)]; omega⟩
    rw [ptsFrom]
    by_cases a1 : -1000000000000 ≤ l.getD i 0 ∧ l.getD i 0 ≤ 1000000000000
    · by_cases hz : i = 0
      · have : ptOK l i = true := by unfold ptOK; exact decide_eq_true (by omega)
        rw [this, Bool.true_and]
        have c2 : ¬ ((i : Int) > 0) := by omega
        refine Ev.step (fun k => ?_) (ih (i + 1) (by omega))
        rw [impl_DigestOK.l0, if_pos c1, if_pos (Int.natCast_nonneg _), if_pos c1, rd_nat, oOk_eq, decide_eq_true a1, Option.bind_some, if_pos rfl, if_neg c2, e1.out]
      · have c2 : (i : Int) > 0 := by omega
        have c3 : ((i - 1 : Nat) : Int) < (l.length : Int) := by omega
        have e2 : Aside0 (wrap64 ((i : Int) - 1) = ((i - 1 : Nat) : Int)) := ⟨by rw [w64 (by omega) (by omega)]; omega⟩
        by_cases a3 : l.getD i 0 < l.getD (i - 1) 0
        · have : ptOK l i = false := by unfold ptOK; exact decide_eq_false (by omega)
          rw [this, Bool.false_and]
          refine Ev.step (fun k => ?_) (Ev.now _)
          rw [impl_DigestOK.l0, if_pos c1, if_pos (Int.natCast_nonneg _), if_pos c1, rd_nat, oOk_eq, decide_eq_true a1, Option.bind_some, if_pos rfl, if_pos c2, e2.out, if_pos (Int.natCast_nonneg _), if_pos c3, rd_nat, if_pos a3, Bool.false_and]
        · have : ptOK l i = true := by unfold ptOK; exact decide_eq_true (by omega)
          rw [this, Bool.true_and]
          refine Ev.step (fun k => ?_) (ih (i + 1) (by omega))
          rw [impl_DigestOK.l0, if_pos c1, if_pos (Int.natCast_nonneg _), if_pos c1, rd_nat, oOk_eq, decide_eq_true a1, Option.bind_some, if_pos rfl, if_pos c2, e2.out, if_pos (Int.natCast_nonneg _), if_pos c3, rd_nat, if_neg a3, e1.out]
    · have : ptOK l i = false := by unfold ptOK; exact decide_eq_false (by omega)
      rw [this, Bool.false_and]
      refine Ev.step (fun k => ?_) (Ev.now _)
      rw [impl_DigestOK.l0, if_pos c1, if_pos (Int.natCast_nonneg _), if_pos c1, rd_nat, oOk_eq, decide_eq_false a1, Option.bind_some, if_neg Bool.false_ne_true, Bool.false_and]

theorem impl_DigestOK_eq (s p c : Int) (l : List Int) : Ev (fun k => impl_DigestOK.f k s p c l) (dOK s p c l) := by
  have bad : ∀ x : Bool, x = true → Ev (fun k => impl_DigestOK.j0 k x s p c l) false := by
    intro x hx
    refine Ev.step (fun k => ?_) (Ev.now _)
    rw [impl_DigestOK.j0, if_pos hx]
  by_cases hh : dHead s p c l.length = true
  · obtain ⟨h1, h2, h3, h4, h5, h6, h7⟩ := of_decide_eq_true hh
    unfold dOK
    rw [hh, Bool.true_and, Bool.and_comm]
    obtain ⟨q0, q1, q2, q3⟩ := digest_div s c h1 h5 h6
    have hmost := Aside0.mk (digest_most s p c h1 h2 h3 h4 h5 h6)
    have q2' := Aside0.mk q2
    have q3' := Aside0.mk q3
    clear q2 q3
    have hle : Aside0 (wrap64 (c / s + 1) = c / s + 1) := ⟨w64 (by omega) (by omega)⟩
    have hs0 : ¬ (s = 0) := by omega
    have hend : ∀ k, impl_DigestOK.l0 (k + 1) l (l.length : Int) (l.length : Int) s p c l = some (dMid s p c l.length) := by
      intro k
      have c0 : ¬ ((l.length : Int) < (l.length : Int)) := by omega
      rw [impl_DigestOK.l0, if_neg c0, if_neg hs0, q2'.out, q3'.out, hle.out, hmost.out]
      unfold dMid
      by_cases hr : c % s > 0
      · have hl : dLeast s c = c / s + 1 := by unfold dLeast; rw [if_pos hr]
        rw [hl, if_pos hr]
        (repeat' split) <;> first | exact congrArg some (decide_eq_decide.2 (by constructor <;> intro h <;> omega)) | exact congrArg some (decide_eq_false (by omega)).symm
      · have hl : dLeast s c = c / s := by unfold dLeast; rw [if_neg hr, Int.add_zero]
        rw [hl, if_neg hr]
        (repeat' split) <;> first | exact congrArg some (decide_eq_decide.2 (by constructor <;> intro h <;> omega)) | exact congrArg some (decide_eq_false (by omega)).symm
    have hpts := impl_pts s p c l h7 _ hend l.length 0 (by omega)
    rw [n0] at hpts
    have h8 : ¬ ((l.length : Int) > 512) := by omega
    refine Ev.congr (f := fun k => impl_DigestOK.j0 k false s p c l) (fun k => ?_) (Ev.step (fun k => ?_) hpts)
    · unfold impl_DigestOK.f
      rw [if_neg (by omega), if_neg (by omega), if_neg (by omega), if_neg (by omega), if_neg (by omega), if_neg (by omega), decide_eq_false h8]
    · rw [impl_DigestOK.j0, if_neg Bool.false_ne_true]
  · have hf : dOK s p c l = false := by unfold dOK; rw [Bool.eq_false_iff.2 hh, Bool.false_and]
    rw [hf]
    have hh' : ¬ (1 ≤ s ∧ s ≤ 4096 ∧ 1 ≤ p ∧ p ≤ 4096 ∧ 0 ≤ c ∧ c ≤ 4611686018427387903 ∧ l.length ≤ 512) := fun h => hh (decide_eq_true h)
    refine Ev.congr (f := fun k => impl_DigestOK.j0 k true s p c l) (fun k => ?_) (bad _ rfl)
    unfold impl_DigestOK.f
    by_cases a1 : s < 1
    · rw [if_pos a1]
    · by_cases a2 : s > 4096
      · rw [if_neg a1, if_pos a2]
      · by_cases a3 : p < 1
        · rw [if_neg a1, if_neg a2, if_pos a3]
        · by_cases a4 : p > 4096
          · rw [if_neg a1, if_neg a2, if_neg a3, if_pos a4]
          · by_cases a5 : c < 0
            · rw [if_neg a1, if_neg a2, if_neg a3, if_neg a4, if_pos a5]
            · by_cases a6 : c > 4611686018427387903
              · rw [if_neg a1, if_neg a2, if_neg a3, if_neg a4, if_neg a5, if_pos a6]
              · have a7 : (l.length : Int) > 512 := by omega
                rw [if_neg a1, if_neg a2, if_neg a3, if_neg a4, if_neg a5, if_neg a6, decide_eq_true a7]

theorem toI (xs : List Int) (hn : xs.length ≤ 35184372088832) (k : Nat) (hk : xs.length < k) : laws_toIntS.f k xs = some xs := by
  unfold laws_toIntS.f
  rw [if_pos (by omega), if_pos (by omega), Int.toNat_natCast]
  exact toS_all laws_toIntS.l0 (fun _ _ _ _ => rfl) xs (by omega) k hk
theorem eqI (xs : List Int) (hn : xs.length ≤ 140737488351232) (k : Nat) (hk : xs.length < k) : laws_eqIntS.f k xs xs = some true := by
  unfold laws_eqIntS.f
  rw [if_pos rfl]
  exact eqS_all laws_eqIntS.l0 (fun _ _ _ _ => rfl) xs (by omega) k hk

/-- The law's own measure: a longer slice is let by. -/
theorem sz_big (s p c : Int) (l : List Int) (hm : l.length ≤ 9223372036854775807) : (l.length > 1048576 → laws_szDigest.f s p c l 1048576 = some (-1)) ∧ (l.length ≤ 1048576 → laws_szDigest.f s p c l 1048576 = some (1048576 - (l.length : Int))) := by
  unfold laws_szDigest.f laws_szIntS.f
  have e : Aside0 (wrap64 (1048576 - (l.length : Int)) = 1048576 - (l.length : Int)) := ⟨w64 (by omega) (by omega)⟩
  constructor
  · intro h
    have h0 : 1048576 - (l.length : Int) < 0 := by omega
    rw [e.out, if_pos h0]; rfl
  · intro h
    have h0 : ¬ (1048576 - (l.length : Int) < 0) := by omega
    rw [e.out, if_neg h0, Option.bind_some, if_neg h0]

def le' (x y : Int) : Bool := decide (x ≤ y)
theorem le_trans' (a b c : Int) (h1 : le' a b = true) (h2 : le' b c = true) : le' a c = true := by
  unfold le' at *
  have := of_decide_eq_true h1
  have := of_decide_eq_true h2
  exact decide_eq_true (by omega)
theorem le_total' (a b : Int) : (le' a b || le' b a) = true := by
  unfold le'
  rw [Bool.or_eq_true]
  rcases Int.le_total a b with h | h
  · exact .inl (decide_eq_true h)
  · exact .inr (decide_eq_true h)
theorem sort_unique {a b : List Int} (ha : a.Pairwise fun x y => le' x y = true) (hb : b.Pairwise fun x y => le' x y = true) (hp : a.Perm b) : a = b :=
  hp.eq_of_pairwise (fun x y _ _ h1 h2 => by
    unfold le' at h1 h2
    have := of_decide_eq_true h1
    have := of_decide_eq_true h2
    omega) ha hb
theorem sorted_ms (l : List Int) : (l.mergeSort le').Pairwise fun x y => le' x y = true := List.pairwise_mergeSort le_trans' le_total' l
theorem sort_halves (l : List Int) (n : Nat) : ((l.take n).mergeSort le').merge ((l.drop n).mergeSort le') le' = l.mergeSort le' := by
  refine sort_unique (List.pairwise_merge le_trans' le_total' _ _ (sorted_ms _) (sorted_ms _)) (sorted_ms _) ?_
  refine (List.merge_perm_append le').trans ?_
  refine ((List.mergeSort_perm _ _).append (List.mergeSort_perm _ _)).trans ?_
  rw [List.take_append_drop]
  exact (List.mergeSort_perm _ _).symm

theorem sort_merge (n : Nat) : ∀ (a b out : List Int), a.length + b.length = n → out.length + n < 17592186044416 → Ev (fun k => spec_l17Sort.l0 k a b out) (out ++ a.merge b le') := by
  induction n with
  | zero =>
    intro a b out h ho
    have ha : a = [] := List.length_eq_zero_iff.1 (by omega)
    have hb : b = [] := List.length_eq_zero_iff.1 (by omega)
    subst ha; subst hb
    refine Ev.step (fun k => by rw [spec_l17Sort.l0]) ?_
    refine Ev.neg (by simp) ?_
    refine Ev.step (fun k => by rw [spec_l17Sort.j1]) ?_
    refine Ev.neg (by simp) ?_
    rw [List.nil_merge, List.append_nil]
    exact Ev.now _
  | succ n ih =>
    intro a b out h ho
    cases a with
    | nil =>
      cases b with
      | nil => simp at h
      | cons y ys =>
        refine Ev.step (fun k => by rw [spec_l17Sort.l0]) ?_
        refine Ev.neg (by simp) ?_
        refine Ev.step (fun k => by rw [spec_l17Sort.j1]) ?_
        refine Ev.pos (by simp) ?_
        refine Ev.neg (by first | (simp; done) | (simp; omega)) ?_
        refine Ev.neg (by simp) ?_
        refine Ev.pos (by first | (simp; done) | (simp; omega)) ?_
        refine Ev.pos (by simp at h; omega) ?_
        refine Ev.pos (by first | (simp; done) | (simp; omega)) ?_
        have := ih [] ys (out ++ [y]) (by simp at h ⊢; omega) (by simp at h ⊢; omega)
        rw [List.nil_merge] at this ⊢
        rw [List.append_assoc] at this
        exact this
    | cons x xs =>
      cases b with
      | nil =>
        refine Ev.step (fun k => by rw [spec_l17Sort.l0]) ?_
        refine Ev.pos (by first | (simp; done) | (simp; omega)) ?_
        refine Ev.step (fun k => by rw [spec_l17Sort.j1]) ?_
        refine Ev.pos rfl ?_
        refine Ev.pos (by simp) ?_
        refine Ev.pos (by first | (simp; done) | (simp; omega)) ?_
        refine Ev.pos (by simp at h; omega) ?_
        refine Ev.pos (by first | (simp; done) | (simp; omega)) ?_
        have := ih xs [] (out ++ [x]) (by simp at h ⊢; omega) (by simp at h ⊢; omega)
        rw [List.merge_right] at this ⊢
        rw [List.append_assoc] at this
        exact this
      | cons y ys =>
        refine Ev.step (fun k => by rw [spec_l17Sort.l0]) ?_
        refine Ev.pos (by first | (simp; done) | (simp; omega)) ?_
        refine Ev.step (fun k => by rw [spec_l17Sort.j1]) ?_
        refine Ev.pos rfl ?_
        refine Ev.neg (by first | (simp; done) | (simp; omega)) ?_
        refine Ev.pos (by first | (simp; done) | (simp; omega)) ?_
        refine Ev.pos (by first | (simp; done) | (simp; omega)) ?_
        refine Ev.pos (by first | (simp; done) | (simp; omega)) ?_
        by_cases c : x ≤ y
        · refine Ev.pos c ?_
          refine Ev.pos (by simp at h; omega) ?_
          refine Ev.pos (by first | (simp; done) | (simp; omega)) ?_
          have := ih xs (y :: ys) (out ++ [x]) (by simp at h ⊢; omega) (by simp at h ⊢; omega)
          rw [List.append_assoc] at this
          rw [List.cons_merge_cons_pos le' _ _ (show le' x y = true from decide_eq_true c)]
          exact this
        · refine Ev.neg c ?_
          refine Ev.pos (by simp at h; omega) ?_
          refine Ev.pos (by first | (simp; done) | (simp; omega)) ?_
          have := ih (x :: xs) ys (out ++ [y]) (by simp at h ⊢; omega) (by simp at h ⊢; omega)
          rw [List.append_assoc] at this
          rw [List.cons_merge_cons_neg le' _ _ (show ¬ le' x y = true from by unfold le'; exact fun h => c (of_decide_eq_true h))]
          exact this

theorem sort_short (l : List Int) (h : l.length < 2) : l.mergeSort le' = l := by
  match l, h with
  | [], _ => simp
  | [x], _ => simp

theorem sort_ev (n : Nat) : ∀ l : List Int, l.length ≤ n → n ≤ 1000000 → Ev (fun k => spec_l17Sort.f k l) (l.mergeSort le') := by
  induction n with
  | zero =>
    intro l hl hn
    refine Ev.step (fun k => by rw [spec_l17Sort.f]) ?_
    refine Ev.pos (by omega) ?_
    refine Ev.bind (Ev.now _) ?_
    refine Ev.pos (by first | (simp; done) | (simp; omega)) ?_
    rw [sort_short l (by omega)]
    exact Ev.now _
  | succ n ih =>
    intro l hl hn
    refine Ev.step (fun k => by rw [spec_l17Sort.f]) ?_
    by_cases c : l.length < 2
    · refine Ev.pos (by omega) ?_
      refine Ev.bind (Ev.now _) ?_
      refine Ev.pos (by first | (simp; done) | (simp; omega)) ?_
      rw [sort_short l c]
      exact Ev.now _
    · have e : wrap64 ((l.length : Int) / 2) = ((l.length / 2 : Nat) : Int) := by rw [w64 (by omega) (by omega)]; omega
      rw [e]
      refine Ev.neg (by omega) ?_
      refine Ev.pos (by omega) ?_
      refine Ev.pos (by omega) ?_
      rw [Int.toNat_natCast]
      refine Ev.bind (ih (l.take (l.length / 2)) (by rw [List.length_take]; omega) (by omega)) ?_
      refine Ev.bind (ih (l.drop (l.length / 2)) (by rw [List.length_drop]; omega) (by omega)) ?_
      have := sort_merge l.length ((l.take (l.length / 2)).mergeSort le') ((l.drop (l.length / 2)).mergeSort le') [] (by first | (simp; done) | (simp; omega)) (by first | (simp; done) | (simp; omega))
      rw [sort_halves, List.nil_append] at this
      exact this

theorem impl_sort (l : List Int) (h : l.length ≤ 1000000) : slices_Sort_int_int.f l = some (l.mergeSort le') := by
  unfold slices_Sort_int_int.f
  rw [if_pos h]; rfl

def joinTell (s p c : Int) (l : List Int) (s' p' c' : Int) (l' : List Int) : Int × Int × Int × List Int × Int :=
  if dOK s p c l = true ∧ dOK s' p' c' l' = true then
    (if s = s' ∧ p + p' ≤ 4096 ∧ c ≤ 4611686018427387903 - c' then
      (if l.length + l'.length ≤ 512 then (s, p + p', c + c', (l ++ l').mergeSort le', 0) else (0, 0, 0, [], 11))
    else (0, 0, 0, [], 12))
  else (0, 0, 0, [], 1)

theorem ok_head (s p c : Int) (l : List Int) (h : dOK s p c l = true) : 1 ≤ s ∧ s ≤ 4096 ∧ 1 ≤ p ∧ p ≤ 4096 ∧ 0 ≤ c ∧ c ≤ 4611686018427387903 ∧ l.length ≤ 512 := by
  unfold dOK at h
  rw [Bool.and_eq_true] at h
  exact of_decide_eq_true h.1

section
variable (s p c : Int) (l : List Int) (s' p' c' : Int) (l' : List Int)
theorem spec_join_bad : Ev (fun k => spec_DigestJoin.j0 k true s p c l s' p' c' l') (0, 0, 0, [], 1) := by
  refine Ev.step (fun k => by rw [spec_DigestJoin.j0]) ?_
  exact Ev.pos rfl (Ev.now _)
theorem impl_join_bad : Ev (fun k => impl_DigestJoin.j0 k true s p c l s' p' c' l') (0, 0, 0, [], 1) := by
  refine Ev.step (fun k => by rw [impl_DigestJoin.j0]) ?_
  exact Ev.pos rfl (Ev.now _)
theorem spec_join_range : Ev (fun k => spec_DigestJoin.j1 k true s p c l s' p' c' l') (0, 0, 0, [], 12) := by
  refine Ev.step (fun k => by rw [spec_DigestJoin.j1]) ?_
  exact Ev.pos rfl (Ev.now _)
theorem impl_join_range : Ev (fun k => impl_DigestJoin.j1 k true s p c l s' p' c' l') (0, 0, 0, [], 12) := by
  refine Ev.step (fun k => by rw [impl_DigestJoin.j1]) ?_
  exact Ev.pos rfl (Ev.now _)

theorem join_last (h1 : dOK s p c l = true) (h2 : dOK s' p' c' l' = true) (hc : c ≤ 4611686018427387903 - c') (hp : p + p' ≤ 4096) :
    Ev (fun k => spec_DigestJoin.j1 k false s p c l s' p' c' l') (if l.length + l'.length ≤ 512 then (s, p + p', c + c', (l ++ l').mergeSort le', 0) else (0, 0, 0, [], 11)) ∧
    Ev (fun k => impl_DigestJoin.j1 k false s p c l s' p' c' l') (if l.length + l'.length ≤ 512 then (s, p + p', c + c', (l ++ l').mergeSort le', 0) else (0, 0, 0, [], 11)) := by
  obtain ⟨a1, a2, a3, a4, a5, a6, a7⟩ := ok_head s p c l h1
  obtain ⟨b1, b2, b3, b4, b5, b6, b7⟩ := ok_head s' p' c' l' h2
  have e : wrap64 ((l.length : Int) + (l'.length : Int)) = (l.length : Int) + (l'.length : Int) := w64 (by omega) (by omega)
  have ep : wrap64 (p + p') = p + p' := w64 (by omega) (by omega)
  have ec : wrap64 (c + c') = c + c' := w64 (by omega) (by omega)
  refine ⟨?_, ?_⟩
  · refine Ev.step (fun k => by rw [spec_DigestJoin.j1]) ?_
    refine Ev.neg Bool.false_ne_true ?_
    rw [e]
    by_cases g : l.length + l'.length ≤ 512
    · rw [if_pos g]
      refine Ev.neg (by omega) ?_
      refine Ev.bind (Ev.now _) ?_
      refine Ev.pos (by first | (simp; done) | (simp; omega)) ?_
      refine Ev.bind (Ev.now _) ?_
      refine Ev.pos (by first | (simp; done) | (simp; omega)) ?_
      rw [List.nil_append]
      refine Ev.bind (sort_ev 1000000 (l ++ l') (by first | (simp; done) | (simp; omega)) (by omega)) ?_
      rw [ep, ec]
      exact Ev.now _
    · rw [if_neg g]
      exact Ev.pos (by omega) (Ev.now _)
  · refine Ev.step (fun k => by rw [impl_DigestJoin.j1]) ?_
    refine Ev.neg Bool.false_ne_true ?_
    rw [e]
    by_cases g : l.length + l'.length ≤ 512
    · rw [if_pos g]
      refine Ev.neg (by omega) ?_
      unfold slices_Clone_int_int.f
      rw [if_pos (by omega)]
      refine Ev.bind (Ev.now _) ?_
      refine Ev.pos (by omega) ?_
      rw [impl_sort (l ++ l') (by first | (simp; done) | (simp; omega))]
      refine Ev.bind (Ev.now _) ?_
      rw [ep, ec]
      exact Ev.now _
    · rw [if_neg g]
      exact Ev.pos (by omega) (Ev.now _)

theorem join_mid (h1 : dOK s p c l = true) (h2 : dOK s' p' c' l' = true) :
    Ev (fun k => spec_DigestJoin.j0 k false s p c l s' p' c' l') (joinTell s p c l s' p' c' l') ∧ Ev (fun k => impl_DigestJoin.j0 k false s p c l s' p' c' l') (joinTell s p c l s' p' c' l') := by
  obtain ⟨a1, a2, a3, a4, a5, a6, a7⟩ := ok_head s p c l h1
  obtain ⟨b1, b2, b3, b4, b5, b6, b7⟩ := ok_head s' p' c' l' h2
  have ep : wrap64 (p + p') = p + p' := w64 (by omega) (by omega)
  have ec : wrap64 (4611686018427387903 - c') = 4611686018427387903 - c' := w64 (by omega) (by omega)
  unfold joinTell
  rw [if_pos ⟨h1, h2⟩]
  refine ⟨?_, ?_⟩
  · refine Ev.step (fun k => by rw [spec_DigestJoin.j0]) ?_
    refine Ev.neg Bool.false_ne_true ?_
    rw [ep, ec]
    by_cases g : s = s'
    · refine Ev.pos g ?_
      by_cases g2 : p + p' > 4096
      · rw [if_neg (by omega)]
        exact Ev.pos g2 (spec_join_range ..)
      · refine Ev.neg g2 ?_
        by_cases g3 : c > 4611686018427387903 - c'
        · rw [if_neg (by omega), decide_eq_true g3]
          exact spec_join_range ..
        · rw [if_pos ⟨g, by omega, by omega⟩, decide_eq_false g3]
          exact (join_last s p c l s' p' c' l' h1 h2 (by omega) (by omega)).1
    · rw [if_neg (fun h => g h.1)]
      exact Ev.neg g (spec_join_range ..)
  · refine Ev.step (fun k => by rw [impl_DigestJoin.j0]) ?_
    refine Ev.neg Bool.false_ne_true ?_
    rw [ep, ec]
    by_cases g : s = s'
    · refine Ev.pos g ?_
      by_cases g2 : p + p' > 4096
      · rw [if_neg (by omega)]
        exact Ev.pos g2 (impl_join_range ..)
      · refine Ev.neg g2 ?_
        by_cases g3 : c > 4611686018427387903 - c'
        · rw [if_neg (by omega), decide_eq_true g3]
          exact impl_join_range ..
        · rw [if_pos ⟨g, by omega, by omega⟩, decide_eq_false g3]
          exact (join_last s p c l s' p' c' l' h1 h2 (by omega) (by omega)).2
    · rw [if_neg (fun h => g h.1)]
      exact Ev.neg g (impl_join_range ..)

theorem join_eq : Ev (fun k => spec_DigestJoin.f k s p c l s' p' c' l') (joinTell s p c l s' p' c' l') ∧ Ev (fun k => impl_DigestJoin.f k s p c l s' p' c' l') (joinTell s p c l s' p' c' l') := by
  have s1 := spec_DigestOK_eq s p c l
  have s2 := spec_DigestOK_eq s' p' c' l'
  have i1 := impl_DigestOK_eq s p c l
  have i2 := impl_DigestOK_eq s' p' c' l'
  by_cases h1 : dOK s p c l = true
  · by_cases h2 : dOK s' p' c' l' = true
    · obtain ⟨m1, m2⟩ := join_mid s p c l s' p' c' l' h1 h2
      rw [h1] at s1 i1
      rw [h2] at s2 i2
      exact ⟨Ev.bind s1 (Ev.pos rfl (Ev.bind s2 m1)), Ev.bind i1 (Ev.pos rfl (Ev.bind i2 m2))⟩
    · unfold joinTell
      rw [if_neg (fun h => h2 h.2)]
      rw [h1] at s1 i1
      rw [Bool.eq_false_iff.2 h2] at s2 i2
      exact ⟨Ev.bind s1 (Ev.pos rfl (Ev.bind s2 (spec_join_bad ..))), Ev.bind i1 (Ev.pos rfl (Ev.bind i2 (impl_join_bad ..)))⟩
  · unfold joinTell
    rw [if_neg (fun h => h1 h.1)]
    rw [Bool.eq_false_iff.2 h1] at s1 i1
    exact ⟨Ev.bind s1 (Ev.neg Bool.false_ne_true (spec_join_bad ..)), Ev.bind i1 (Ev.neg Bool.false_ne_true (impl_join_bad ..))⟩

theorem joinTell_len : (joinTell s p c l s' p' c' l').2.2.2.1.length ≤ 512 := by
  unfold joinTell
  split
  · split
    · split
      · simp; omega
      · simp
    · simp
  · simp
end

theorem sz_at (s p c : Int) (l : List Int) (a : Int) (h0 : 0 ≤ a) (h1 : a ≤ 1048576) (hm : l.length ≤ 9223372036854775807) : laws_szDigest.f s p c l a = some (if (l.length : Int) ≤ a then a - (l.length : Int) else -1) := by
  unfold laws_szDigest.f laws_szIntS.f
  have e : Aside0 (wrap64 (a - (l.length : Int)) = a - (l.length : Int)) := ⟨w64 (by omega) (by omega)⟩
  rw [e.out]
  by_cases h : (l.length : Int) ≤ a
  · have hn : ¬ (a - (l.length : Int) < 0) := by omega
    rw [if_neg hn, Option.bind_some, if_neg hn, if_pos h]
  · have hn : a - (l.length : Int) < 0 := by omega
    rw [if_pos hn, if_neg h]; rfl
theorem toE (s p c : Int) (l : List Int) (h : l.length ≤ 1048576) : Ev (fun k => laws_toDigest.f k s p c l) (s, p, c, l) :=
  Ev.congr (f := fun k => (laws_toIntS.f k l).bind fun t => some (s, p, c, t)) (fun k => rfl) (Ev.bind (Ev.from l.length (fun k hk => toI l (by omega) k hk)) (Ev.now _))
theorem eqE (s p c : Int) (l : List Int) (h : l.length ≤ 1048576) : Ev (fun k => laws_eqDigest.f k s p c l s p c l) true := by
  unfold laws_eqDigest.f
  refine Ev.pos rfl (Ev.pos rfl (Ev.pos rfl ?_))
  exact Ev.bind (Ev.from l.length (fun k hk => eqI l (by omega) k hk)) (Ev.pos rfl (Ev.now _))
theorem marksE (s p c : Int) (xs : List Int) (a : Nat) (h : xs.length ≤ 1048576) (ha : a ≤ 10000000) : ∃ ys : List Int, ys.length = xs.length ∧ Ev (fun k => laws_markDigest.f k s p c xs (a : Int)) (((a + xs.length : Nat) : Int), ys) ∧ Ev (fun k => laws_heldDigest.f k s p c ys (a : Int)) ((a + xs.length : Nat) : Int) := by
  obtain ⟨ys, h1, h2, h3⟩ := marks (fun x => x) laws_markIntS.l0 laws_heldIntS.l0 (fun _ _ _ _ => rfl) (fun _ _ _ _ => rfl) xs a (by omega)
  refine ⟨ys, h1, ?_, ?_⟩
  · exact Ev.congr (f := fun k => (laws_markIntS.f k xs (a : Int)).bind fun t => some (t.1, t.2)) (fun k => rfl) (Ev.bind (Ev.from xs.length h2) (Ev.now _))
  · refine Ev.congr (f := fun k => (laws_heldIntS.f k ys (a : Int)).bind fun t => if t < 0 then some (-1) else some t) (fun k => rfl) (Ev.bind (Ev.from xs.length h3) ?_)
    exact Ev.neg (by omega) (Ev.now _)

theorem FnExactDigestJoin (s p c : Int) (l : List Int) (s' p' c' : Int) (l' : List Int) (wA : WfFnExactDigestJoin.wfp0 (s, p, c, l)) (wB : WfFnExactDigestJoin.wfp1 (s', p', c', l')) : ∃ k, laws_FnExactDigestJoin.f k s p c l s' p' c' l' = some true := by
  have ha : l.length ≤ 9223372036854775807 := wA.2.2.2.1
  have hb : l'.length ≤ 9223372036854775807 := wB.2.2.2.1
  refine Ev.rounds (g := fun k => laws_FnExactDigestJoin.f k s p c l s' p' c' l') ?_
  unfold laws_FnExactDigestJoin.f
  refine Ev.bind (Ev.ofEq (sz_at s p c l 1048576 (by omega) (by omega) ha)) ?_
  by_cases h1 : (l.length : Int) ≤ 1048576
  · rw [if_pos h1]
    refine Ev.neg (by omega) ?_
    refine Ev.bind (Ev.ofEq (sz_at s' p' c' l' _ (by omega) (by omega) hb)) ?_
    by_cases h2 : (l'.length : Int) ≤ 1048576 - (l.length : Int)
    · rw [if_pos h2]
      refine Ev.neg (by omega) ?_
      obtain ⟨hs, hi⟩ := join_eq s p c l s' p' c' l'
      have hr := joinTell_len s p c l s' p' c' l'
      generalize joinTell s p c l s' p' c' l' = r at hs hi hr
      obtain ⟨rs, rp, rc, rl, e⟩ := r
      simp only at hr
      obtain ⟨ys1, hy1, hm1, _⟩ := marksE s p c l 1 (by omega) (by omega)
      obtain ⟨ys2, hy2, hm2, _⟩ := marksE s' p' c' l' (1 + l.length) (by omega) (by omega)
      obtain ⟨ys3, hy3, hm3, hh3⟩ := marksE rs rp rc rl 1 (by omega) (by omega)
      have tA := toE s p c l (by omega)
      have tB := toE s' p' c' l' (by omega)
      have qA := eqE s p c l (by omega)
      have qB := eqE s' p' c' l' (by omega)
      have qR := eqE rs rp rc rl (by omega)
      refine Ev.bind tA ?_
      refine Ev.bind tB ?_
      refine Ev.bind hs ?_
      refine Ev.bind tA ?_
      refine Ev.bind tB ?_
      refine Ev.bind hi ?_
      refine Ev.bind qR ?_
      refine Ev.pos rfl ?_
      simp only [bne_self_eq_false]
      refine Ev.step (fun k => by rw [laws_FnExactDigestJoin.j0]) ?_
      refine Ev.neg Bool.false_ne_true ?_
      refine Ev.bind tA ?_
      refine Ev.bind qA ?_
      refine Ev.pos rfl ?_
      refine Ev.bind tB ?_
      refine Ev.bind qB ?_
      refine Ev.pos rfl ?_
      refine Ev.bind hm1 ?_
      refine Ev.bind hm2 ?_
      refine Ev.neg (by simp only; omega) ?_
      refine Ev.bind qR ?_
      refine Ev.pos rfl ?_
      refine Ev.step (fun k => by rw [laws_FnExactDigestJoin.j1]) ?_
      refine Ev.neg (by simp) ?_
      refine Ev.bind hm3 ?_
      refine Ev.bind hh3 ?_
      refine Ev.neg (by omega) ?_
      refine Ev.pos rfl ?_
      refine Ev.bind tA ?_
      refine Ev.bind tB ?_
      refine Ev.bind hi ?_
      refine Ev.bind qR ?_
      refine Ev.pos rfl ?_
      refine Ev.step (fun k => by rw [laws_FnExactDigestJoin.j2]) ?_
      refine Ev.neg (by simp) ?_
      refine Ev.bind hh3 ?_
      refine Ev.neg (by omega) ?_
      exact Ev.pos rfl (Ev.now _)
    · rw [if_neg h2]
      exact Ev.pos (by omega) (Ev.now _)
  · rw [if_neg h1]
    exact Ev.pos (by omega) (Ev.now _)

end Go.Proofs.Ytchoncnahlcfjaa.Pure
