/- Whatever the digest and the number, the program's DigestRank tells what the reference's DigestRank tells and writes into no argument: the law's function answers true. No condition. -/
import Derived.Test.YtfkejcakklpecaaPFnExactDigestRankx4
import Derived.Test.YtfkejcakklpecaaKit
import Derived.Lib.ItoaNum
set_option linter.unusedSimpArgs false
set_option linter.unusedVariables false
namespace Go.Proofs.Ytfkejcakklpecaa.Pure
open Go.RowKit Go.Proofs.Ytfkejcakklpecaa.PFnExactDigestRank Go.Proofs.YtfkejcakklpecaaW.PrintWords Go.Proofs.YtfkejcakklpecaaW.PrintLast Go.Proofs.YtfkejcakklpecaaW.PrintMore Go.Proofs.Ytfkejcakklpecaa.Kit

theorem Ev.steps {α : Type} {g f : Nat → Option α} {r : α} (c : Nat) (h : ∀ k, g (k + c) = f k) (k : Ev f r) : Ev g r := by
  obtain ⟨K, hK⟩ := k
  refine ⟨K + c, fun n hn => ?_⟩
  have := h (n - c)
  rw [Nat.sub_add_cancel (by omega)] at this
  rw [this]; exact hK _ (by omega)


theorem n0 : ((0 : Nat) : Int) = 0 := rfl
def ptOK (l : List Int) (i : Nat) : Bool := decide (-1000000000000 ≤ l.getD i 0 ∧ l.getD i 0 ≤ 1000000000000 ∧ (i = 0 ∨ l.getD (i - 1) 0 ≤ l.getD i 0))
def ptsFrom (l : List Int) : Nat → Nat → Bool
  | 0, _ => true
  | d + 1, i => ptOK l i && ptsFrom l d (i + 1)
def dHead (s p c : Int) (n : Nat) : Bool := decide (1 ≤ s ∧ s ≤ 4096 ∧ 1 ≤ p ∧ p ≤ 4096 ∧ 0 ≤ c ∧ c ≤ 4611686018427387903 ∧ n ≤ 512)
def dLeast (s c : Int) : Int := c / s + (if c % s > 0 then 1 else 0)
def dMost (s p c : Int) : Int := (c + p * (s - 1)) / s
def dMid (s p c : Int) (n : Nat) : Bool := decide ((n : Int) ≤ c ∧ dLeast s c ≤ (n : Int) ∧ (n : Int) ≤ dMost s p c)
/-- Whether a digest is one. -/
def dOK (s p c : Int) (l : List Int) : Bool := dHead s p c l.length && (dMid s p c l.length && ptsFrom l l.length 0)

theorem oOk_eq (v : Int) : impl_oOk.f v = some (decide (-1000000000000 ≤ v ∧ v ≤ 1000000000000)) := by
  unfold impl_oOk.f
  split <;> (congr 1; simp; omega)

theorem digest_div (s c : Int) (hs : 1 ≤ s) (hc0 : 0 ≤ c) (hc1 : c ≤ 4611686018427387903) : 0 ≤ c / s ∧ c / s ≤ 4611686018427387903 ∧ wrap64 (Int.tdiv c s) = c / s ∧ Int.tmod c s = c % s := by
  have h0 : 0 ≤ c / s := Int.ediv_nonneg hc0 (by omega)
  have h1 : c / s ≤ c := Int.ediv_le_self _ hc0
  refine ⟨h0, by omega, ?_, Int.tmod_eq_emod_of_nonneg hc0⟩
  rw [Int.tdiv_eq_ediv_of_nonneg hc0]
  generalize c / s = q at *
  exact w64 (by omega) (by omega)

theorem digest_most (s p c : Int) (hs : 1 ≤ s) (hs1 : s ≤ 4096) (hp0 : 1 ≤ p) (hp1 : p ≤ 4096) (hc0 : 0 ≤ c) (hc1 : c ≤ 4611686018427387903) :
    wrap64 (Int.tdiv (wrap64 (c + wrap64 (p * wrap64 (s - 1)))) s) = dMost s p c := by
  have e1 : wrap64 (s - 1) = s - 1 := w64 (by omega) (by omega)
  rw [e1]
  have hm : p * (s - 1) ≤ 4096 * 4095 := Int.mul_le_mul hp1 (by omega) (by omega) (by decide)
  have hm0 : 0 ≤ p * (s - 1) := Int.mul_nonneg (by omega) (by omega)
  unfold dMost
  clear e1
  generalize p * (s - 1) = m at *
  rw [w64 (x := m) (by omega) (by omega), w64 (x := c + m) (by omega) (by omega)]
  have h0 : 0 ≤ (c + m) / s := Int.ediv_nonneg (by omega) (by omega)
  have h1 : (c + m) / s ≤ c + m := Int.ediv_le_self _ (by omega)
  rw [Int.tdiv_eq_ediv_of_nonneg (by omega)]
  generalize (c + m) / s = q at *
  exact w64 (by omega) (by omega)

theorem spec_pts (s p c : Int) (l : List Int) (hl : l.length ≤ 512) (d : Nat) : ∀ i : Nat, i + d = l.length → Ev (fun k => spec_DigestOK.l0 k (l.length : Int) (i : Int) s p c l) (ptsFrom l d i) := by
  induction d with
  | zero =>
    intro i hi
    refine Ev.step (fun k => ?_) (Ev.now _)
    rw [spec_DigestOK.l0, if_neg (by omega), ptsFrom]
  | succ d ih =>
    intro i hi
    have c1 : (i : Int) < (l.length : Int) := by omega
    have e1 : Aside0 (wrap64 ((i : Int) + 1) = ((i + 1 : Nat) : Int)) := ⟨by rw [w64 (by omega) (by omega)]; omega⟩
    rw [ptsFrom]
    by_cases a1 : l.getD i 0 < -1000000000000
    · have : ptOK l i = false := by unfold ptOK; exact decide_eq_false (by omega)
      rw [this, Bool.false_and]
      refine Ev.step (fun k => ?_) (Ev.now _)
      rw [spec_DigestOK.l0, if_pos c1, if_pos (Int.natCast_nonneg _), if_pos c1, rd_nat, if_pos a1]
    · by_cases a2 : l.getD i 0 > 1000000000000
      · have : ptOK l i = false := by unfold ptOK; exact decide_eq_false (by omega)
        rw [this, Bool.false_and]
        refine Ev.step (fun k => ?_) (Ev.now _)
        rw [spec_DigestOK.l0, if_pos c1, if_pos (Int.natCast_nonneg _), if_pos c1, rd_nat, if_neg a1, if_pos a2]
      · by_cases hz : i = 0
        · have : ptOK l i = true := by unfold ptOK; exact decide_eq_true (by omega)
          rw [this, Bool.true_and]
          have c2 : ¬ ((i : Int) > 0) := by omega
          refine Ev.step (fun k => ?_) (ih (i + 1) (by omega))
          rw [spec_DigestOK.l0, if_pos c1, if_pos (Int.natCast_nonneg _), if_pos c1, rd_nat, if_neg a1, if_neg a2, if_neg c2, e1.out]
        · have c2 : (i : Int) > 0 := by omega
          have c3 : ((i - 1 : Nat) : Int) < (l.length : Int) := by omega
          have e2 : Aside0 (wrap64 ((i : Int) - 1) = ((i - 1 : Nat) : Int)) := ⟨by rw [w64 (by omega) (by omega)]; omega⟩
          by_cases a3 : l.getD i 0 < l.getD (i - 1) 0
          · have : ptOK l i = false := by unfold ptOK; exact decide_eq_false (by omega)
            rw [this, Bool.false_and]
            refine Ev.step (fun k => ?_) (Ev.now _)
            rw [spec_DigestOK.l0, if_pos c1, if_pos (Int.natCast_nonneg _), if_pos c1, rd_nat, if_neg a1, if_neg a2, if_pos c2, e2.out, if_pos (Int.natCast_nonneg _), if_pos c3, rd_nat, if_pos a3]
          · have : ptOK l i = true := by unfold ptOK; exact decide_eq_true (by omega)
            rw [this, Bool.true_and]
            refine Ev.step (fun k => ?_) (ih (i + 1) (by omega))
            rw [spec_DigestOK.l0, if_pos c1, if_pos (Int.natCast_nonneg _), if_pos c1, rd_nat, if_neg a1, if_neg a2, if_pos c2, e2.out, if_pos (Int.natCast_nonneg _), if_pos c3, rd_nat, if_neg a3, e1.out]

theorem num_eq (v : Int) : spec_l03Num.f v = some (decide (0 ≤ v ∧ v ≤ 4611686018427387903)) := by
  unfold spec_l03Num.f
  split <;> (congr 1; simp; omega)

theorem spec_DigestOK_eq (s p c : Int) (l : List Int) : Ev (fun k => spec_DigestOK.f k s p c l) (dOK s p c l) := by
  have bad : ∀ x : Bool, x = true → Ev (fun k => spec_DigestOK.j0 k (l.length : Int) x s p c l) false := by
    intro x hx
    refine Ev.step (fun k => ?_) (Ev.now _)
    rw [spec_DigestOK.j0, if_pos hx]
  by_cases hh : dHead s p c l.length = true
  · obtain ⟨h1, h2, h3, h4, h5, h6, h7⟩ := of_decide_eq_true hh
    unfold dOK
    rw [hh, Bool.true_and]
    obtain ⟨q0, q1, q2, q3⟩ := digest_div s c h1 h5 h6
    have hmost := Aside0.mk (digest_most s p c h1 h2 h3 h4 h5 h6)
    have q2' := Aside0.mk q2
    have q3' := Aside0.mk q3
    clear q2 q3
    have hpts := spec_pts s p c l h7 l.length 0 (by omega)
    rw [n0] at hpts
    have hle : Aside0 (wrap64 (c / s + 1) = c / s + 1) := ⟨w64 (by omega) (by omega)⟩
    refine Ev.congr (f := fun k => spec_DigestOK.j0 k (l.length : Int) (decide ((l.length : Int) > c)) s p c l) (fun k => ?_) ?_
    · unfold spec_DigestOK.f
      rw [if_neg (by omega), if_neg (by omega), if_neg (by omega), if_neg (by omega), num_eq, decide_eq_true ⟨h5, h6⟩, Option.bind_some, if_pos rfl, if_neg (by omega)]
    · by_cases hc : (l.length : Int) > c
      · have : dMid s p c l.length = false := by unfold dMid; exact decide_eq_false (by omega)
        rw [this, Bool.false_and]
        exact bad _ (decide_eq_true hc)
      · rw [decide_eq_false hc]
        have hs0 : ¬ (s = 0) := by omega
        have step2 : Ev (fun k => spec_DigestOK.j1 k (l.length : Int) (dLeast s c) s p c l) (dMid s p c l.length && ptsFrom l l.length 0) := by
          by_cases h8 : (l.length : Int) < dLeast s c
          · have : dMid s p c l.length = false := by unfold dMid; exact decide_eq_false (by omega)
            rw [this, Bool.false_and]
            refine Ev.steps 2 (fun k => ?_) (Ev.now _)
            rw [spec_DigestOK.j1, if_pos h8, spec_DigestOK.j2, if_pos rfl]
          · by_cases h9 : (l.length : Int) > dMost s p c
            · have : dMid s p c l.length = false := by unfold dMid; exact decide_eq_false (by omega)
              rw [this, Bool.false_and]
              refine Ev.steps 2 (fun k => ?_) (Ev.now _)
              rw [spec_DigestOK.j1, if_neg h8, if_neg hs0, hmost.out, spec_DigestOK.j2, if_pos (decide_eq_true h9)]
            · have : dMid s p c l.length = true := by unfold dMid; exact decide_eq_true (by omega)
              rw [this, Bool.true_and]
              refine Ev.steps 2 (fun k => ?_) hpts
              rw [spec_DigestOK.j1, if_neg h8, if_neg hs0, hmost.out, decide_eq_false h9, spec_DigestOK.j2, if_neg Bool.false_ne_true]
        refine Ev.step (fun k => ?_) step2
        rw [spec_DigestOK.j0, if_neg Bool.false_ne_true, if_neg hs0, q2'.out, q3'.out, hle.out]
        unfold dLeast
        by_cases hr : c % s > 0
        · rw [if_pos hr, if_pos hr]
        · rw [if_neg hr, if_neg hr, Int.add_zero]
  · have hf : dOK s p c l = false := by unfold dOK; rw [Bool.eq_false_iff.2 hh, Bool.false_and]
    rw [hf]
    have hh' : ¬ (1 ≤ s ∧ s ≤ 4096 ∧ 1 ≤ p ∧ p ≤ 4096 ∧ 0 ≤ c ∧ c ≤ 4611686018427387903 ∧ l.length ≤ 512) := fun h => hh (decide_eq_true h)
    refine Ev.congr (f := fun k => spec_DigestOK.j0 k (l.length : Int) true s p c l) (fun k => ?_) (bad _ rfl)
    unfold spec_DigestOK.f
    by_cases a1 : s < 1
    · rw [if_pos a1]
    · by_cases a2 : s > 4096
      · rw [if_neg a1, if_pos a2]
      · by_cases a3 : p < 1
        · rw [if_neg a1, if_neg a2, if_pos a3]
        · by_cases a4 : p > 4096
          · rw [if_neg a1, if_neg a2, if_neg a3, if_pos a4]
          · rw [if_neg a1, if_neg a2, if_neg a3, if_neg a4, num_eq, Option.bind_some]
            by_cases a5 : 0 ≤ c ∧ c ≤ 4611686018427387903
            · rw [decide_eq_true a5, if_pos rfl, if_pos (by omega)]
            · rw [decide_eq_false a5, if_neg Bool.false_ne_true]

theorem impl_pts (s p c : Int) (l : List Int) (hl : l.length ≤ 512) (r : Bool) (hend : ∀ k, impl_DigestOK.l0 (k + 1) l (l.length : Int) (l.length : Int) s p c l = some r) (d : Nat) : ∀ i : Nat, i + d = l.length →
    Ev (fun k => impl_DigestOK.l0 k l (l.length : Int) (i : Int) s p c l) (ptsFrom l d i && r) := by
  induction d with
  | zero =>
    intro i hi
    obtain rfl : i = l.length := by omega
    rw [ptsFrom, Bool.true_and]
    exact Ev.step (fun k => hend k) (Ev.now _)
  | succ d ih =>
    intro i hi
    have c1 : (i : Int) < (l.length : Int) := by omega
    have e1 : Aside0 (wrap64 ((i : Int) + 1) = ((i + 1 : Nat) : Int)) := ⟨by rw [w64 (by omega) (by omega)]; omega⟩
    rw [ptsFrom]
    by_cases a1 : -1000000000000 ≤ l.getD i 0 ∧ l.getD i 0 ≤ 1000000000000
    · by_cases hz : i = 0
      · have : ptOK l i = true := by unfold ptOK; exact decide_eq_true (by omega)
        rw [this, Bool.true_and]
        have c2 : ¬ ((i : Int) > 0) := by omega
        refine Ev.step (fun k => ?_) (ih (i + 1) (by omega))
        rw [impl_DigestOK.l0, if_pos c1, if_pos (Int.natCast_nonneg _), if_pos c1, rd_nat, oOk_eq, decide_eq_true a1, Option.bind_some, if_pos rfl, if_neg c2, e1.out]
      · have c2 : (i : Int) > 0 := by omega
        have c3 : ((i - 1 : Nat) : Int) < (l.length : Int) := by omega
        have e2 : Aside0 (wrap64 ((i : Int) - 1) = ((i - 1 : Nat) : Int)) := ⟨by rw [w64 (by omega) (by omega)]; omega⟩
        by_cases a3 : l.getD i 0 < l.getD (i - 1) 0
        · have : ptOK l i = false := by unfold ptOK; exact decide_eq_false (by omega)
          rw [this, Bool.false_and]
          refine Ev.step (fun k => ?_) (Ev.now _)
          rw [impl_DigestOK.l0, if_pos c1, if_pos (Int.natCast_nonneg _), if_pos c1, rd_nat, oOk_eq, decide_eq_true a1, Option.bind_some, if_pos rfl, if_pos c2, e2.out, if_pos (Int.natCast_nonneg _), if_pos c3, rd_nat, if_pos a3, Bool.false_and]
        · have : ptOK l i = true := by unfold ptOK; exact decide_eq_true (by omega)
          rw [this, Bool.true_and]
          refine Ev.step (fun k => ?_) (ih (i + 1) (by omega))
          rw [impl_DigestOK.l0, if_pos c1, if_pos (Int.natCast_nonneg _), if_pos c1, rd_nat, oOk_eq, decide_eq_true a1, Option.bind_some, if_pos rfl, if_pos c2, e2.out, if_pos (Int.natCast_nonneg _), if_pos c3, rd_nat, if_neg a3, e1.out]
    · have : ptOK l i = false := by unfold ptOK; exact decide_eq_false (by omega)
      rw [this, Bool.false_and]
      refine Ev.step (fun k => ?_) (Ev.now _)
      rw [impl_DigestOK.l0, if_pos c1, if_pos (Int.natCast_nonneg _), if_pos c1, rd_nat, oOk_eq, decide_eq_false a1, Option.bind_some, if_neg Bool.false_ne_true, Bool.false_and]

theorem impl_DigestOK_eq (s p c : Int) (l : List Int) : Ev (fun k => impl_DigestOK.f k s p c l) (dOK s p c l) := by
  have bad : ∀ x : Bool, x = true → Ev (fun k => impl_DigestOK.j0 k x s p c l) false := by
    intro x hx
    refine Ev.step (fun k => ?_) (Ev.now _)
    rw [impl_DigestOK.j0, if_pos hx]
  by_cases hh : dHead s p c l.length = true
  · obtain ⟨h1, h2, h3, h4, h5, h6, h7⟩ := of_decide_eq_true hh
    unfold dOK
    rw [hh, Bool.true_and, Bool.and_comm]
    obtain ⟨q0, q1, q2, q3⟩ := digest_div s c h1 h5 h6
    have hmost := Aside0.mk (digest_most s p c h1 h2 h3 h4 h5 h6)
    have q2' := Aside0.mk q2
    have q3' := Aside0.mk q3
    clear q2 q3
    have hle : Aside0 (wrap64 (c / s + 1) = c / s + 1) := ⟨w64 (by omega) (by omega)⟩
    have hs0 : ¬ (s = 0) := by omega
    have hend : ∀ k, impl_DigestOK.l0 (k + 1) l (l.length : Int) (l.length : Int) s p c l = some (dMid s p c l.length) := by
      intro k
      have c0 : ¬ ((l.length : Int) < (l.length : Int)) := by omega
      rw [impl_DigestOK.l0, if_neg c0, if_neg hs0, q2'.out, q3'.out, hle.out, hmost.out]
      unfold dMid
      by_cases hr : c % s > 0
      · have hl : dLeast s c = c / s + 1 := by unfold dLeast; rw [if_pos hr]
        rw [hl, if_pos hr]
        (repeat' split) <;> first | exact congrArg some (decide_eq_decide.2 (by constructor <;> intro h <;> omega)) | exact congrArg some (decide_eq_false (by omega)).symm
      · have hl : dLeast s c = c / s := by unfold dLeast; rw [if_neg hr, Int.add_zero]
        rw [hl, if_neg hr]
        (repeat' split) <;> first | exact congrArg some (decide_eq_decide.2 (by constructor <;> intro h <;> omega)) | exact congrArg some (decide_eq_false (by omega)).symm
    have hpts := impl_pts s p c l h7 _ hend l.length 0 (by omega)
    rw [n0] at hpts
    have h8 : ¬ ((l.length : Int) > 512) := by omega
    refine Ev.congr (f := fun k => impl_DigestOK.j0 k false s p c l) (fun k => ?_) (Ev.step (fun k => ?_) hpts)
    · unfold impl_DigestOK.f
      rw [if_neg (by omega), if_neg (by omega), if_neg (by omega), if_neg (by omega), if_neg (by omega), if_neg (by omega), decide_eq_false h8]
    · rw [impl_DigestOK.j0, if_neg Bool.false_ne_true]
  · have hf : dOK s p c l = false := by unfold dOK; rw [Bool.eq_false_iff.2 hh, Bool.false_and]
    rw [hf]
    have hh' : ¬ (1 ≤ s ∧ s ≤ 4096 ∧ 1 ≤ p ∧ p ≤ 4096 ∧ 0 ≤ c ∧ c ≤ 4611686018427387903 ∧ l.length ≤ 512) := fun h => hh (decide_eq_true h)
    refine Ev.congr (f := fun k => impl_DigestOK.j0 k true s p c l) (fun k => ?_) (bad _ rfl)
    unfold impl_DigestOK.f
    by_cases a1 : s < 1
    · rw [if_pos a1]
    · by_cases a2 : s > 4096
      · rw [if_neg a1, if_pos a2]
      · by_cases a3 : p < 1
        · rw [if_neg a1, if_neg a2, if_pos a3]
        · by_cases a4 : p > 4096
          · rw [if_neg a1, if_neg a2, if_neg a3, if_pos a4]
          · by_cases a5 : c < 0
            · rw [if_neg a1, if_neg a2, if_neg a3, if_neg a4, if_pos a5]
            · by_cases a6 : c > 4611686018427387903
              · rw [if_neg a1, if_neg a2, if_neg a3, if_neg a4, if_neg a5, if_pos a6]
              · have a7 : (l.length : Int) > 512 := by omega
                rw [if_neg a1, if_neg a2, if_neg a3, if_neg a4, if_neg a5, if_neg a6, decide_eq_true a7]

theorem toI (xs : List Int) (hn : xs.length ≤ 35184372088832) (k : Nat) (hk : xs.length < k) : laws_toIntS.f k xs = some xs := by
  unfold laws_toIntS.f
  rw [if_pos (by omega), if_pos (by omega), Int.toNat_natCast]
  exact toS_all laws_toIntS.l0 (fun _ _ _ _ => rfl) xs (by omega) k hk
theorem eqI (xs : List Int) (hn : xs.length ≤ 140737488351232) (k : Nat) (hk : xs.length < k) : laws_eqIntS.f k xs xs = some true := by
  unfold laws_eqIntS.f
  rw [if_pos rfl]
  exact eqS_all laws_eqIntS.l0 (fun _ _ _ _ => rfl) xs (by omega) k hk

/-- The law's own measure: a longer slice is let by. -/
theorem sz_big (s p c : Int) (l : List Int) (hm : l.length ≤ 9223372036854775807) : (l.length > 1048576 → laws_szDigest.f s p c l 1048576 = some (-1)) ∧ (l.length ≤ 1048576 → laws_szDigest.f s p c l 1048576 = some (1048576 - (l.length : Int))) := by
  unfold laws_szDigest.f laws_szIntS.f
  have e : Aside0 (wrap64 (1048576 - (l.length : Int)) = 1048576 - (l.length : Int)) := ⟨w64 (by omega) (by omega)⟩
  constructor
  · intro h
    have h0 : 1048576 - (l.length : Int) < 0 := by omega
    rw [e.out, if_pos h0]; rfl
  · intro h
    have h0 : ¬ (1048576 - (l.length : Int) < 0) := by omega
    rw [e.out, if_neg h0, Option.bind_some, if_neg h0]

def cntFrom (l : List Int) (v : Int) : Nat → Nat → Int → Int
  | 0, _, c => c
  | d + 1, i, c => if l.getD i 0 ≤ v then cntFrom l v d (i + 1) (wrap64 (c + 1)) else cntFrom l v d (i + 1) c
def rankOf (s p c k : Int) : Int × Int × Int := (wrap64 ((wrap64 (k * s)) - (wrap64 ((wrap64 (s - 1)) * (mn p k)))), mn (wrap64 (k * s)) c, 0)
def rankTell (s p c : Int) (l : List Int) (v : Int) : Int × Int × Int := if dOK s p c l then rankOf s p c (cntFrom l v l.length 0 0) else (0, 0, 1)

theorem spec_rank (s p c : Int) (l : List Int) (v : Int) (hl : l.length ≤ 512) (d : Nat) : ∀ (i : Nat) (x : Int), i + d = l.length → Ev (fun k => spec_DigestRank.l0 k v x (i : Int) s p c l) (rankOf s p c (cntFrom l v d i x)) := by
  induction d with
  | zero =>
    intro i x hi
    refine Ev.step (fun k => ?_) (Ev.now _)
    rw [spec_DigestRank.l0, if_neg (by omega)]; rfl
  | succ d ih =>
    intro i x hi
    have c1 : (i : Int) < (l.length : Int) := by omega
    have e1 : Aside0 (wrap64 ((i : Int) + 1) = ((i + 1 : Nat) : Int)) := ⟨by rw [w64 (by omega) (by omega)]; omega⟩
    rw [cntFrom]
    by_cases hc : l.getD i 0 ≤ v
    · rw [if_pos hc]
      refine Ev.step (fun k => ?_) (ih (i + 1) _ (by omega))
      rw [spec_DigestRank.l0, if_pos c1, if_pos (Int.natCast_nonneg _), rd_nat, if_pos hc, e1.out]
    · rw [if_neg hc]
      refine Ev.step (fun k => ?_) (ih (i + 1) _ (by omega))
      rw [spec_DigestRank.l0, if_pos c1, if_pos (Int.natCast_nonneg _), rd_nat, if_neg hc, e1.out]

theorem impl_rank (s p c : Int) (l : List Int) (v : Int) (hl : l.length ≤ 512) (d : Nat) : ∀ (i : Nat) (x : Int), i + d = l.length → Ev (fun k => impl_DigestRank.l0 k v x l (l.length : Int) (i : Int) s p c l) (rankOf s p c (cntFrom l v d i x)) := by
  induction d with
  | zero =>
    intro i x hi
    refine Ev.step (fun k => ?_) (Ev.now _)
    rw [impl_DigestRank.l0, if_neg (by omega)]; rfl
  | succ d ih =>
    intro i x hi
    have c1 : (i : Int) < (l.length : Int) := by omega
    have e1 : Aside0 (wrap64 ((i : Int) + 1) = ((i + 1 : Nat) : Int)) := ⟨by rw [w64 (by omega) (by omega)]; omega⟩
    rw [cntFrom]
    by_cases hc : l.getD i 0 ≤ v
    · rw [if_pos hc]
      refine Ev.step (fun k => ?_) (ih (i + 1) _ (by omega))
      rw [impl_DigestRank.l0, if_pos c1, if_pos (Int.natCast_nonneg _), if_pos c1, rd_nat, if_pos hc, e1.out]
    · rw [if_neg hc]
      refine Ev.step (fun k => ?_) (ih (i + 1) _ (by omega))
      rw [impl_DigestRank.l0, if_pos c1, if_pos (Int.natCast_nonneg _), if_pos c1, rd_nat, if_neg hc, e1.out]

theorem dOK_len (s p c : Int) (l : List Int) (h : dOK s p c l = true) : l.length ≤ 512 := by
  unfold dOK at h
  rw [Bool.and_eq_true] at h
  exact (of_decide_eq_true h.1).2.2.2.2.2.2

theorem spec_Rank_eq (s p c : Int) (l : List Int) (v : Int) : Ev (fun k => spec_DigestRank.f k s p c l v) (rankTell s p c l v) := by
  unfold rankTell
  by_cases h : dOK s p c l = true
  · rw [if_pos h]
    have h1 := spec_DigestOK_eq s p c l
    rw [h] at h1
    have h2 := spec_rank s p c l v (dOK_len s p c l h) l.length 0 0 (by omega)
    rw [n0] at h2
    refine Ev.bind h1 (Ev.congr (fun k => ?_) h2)
    rw [if_pos rfl]
  · rw [if_neg h]
    have h1 := spec_DigestOK_eq s p c l
    rw [Bool.eq_false_iff.2 h] at h1
    refine Ev.bind h1 (Ev.congr (fun k => ?_) (Ev.now _))
    rw [if_neg Bool.false_ne_true]

theorem impl_Rank_eq (s p c : Int) (l : List Int) (v : Int) : Ev (fun k => impl_DigestRank.f k s p c l v) (rankTell s p c l v) := by
  unfold rankTell
  by_cases h : dOK s p c l = true
  · rw [if_pos h]
    have h1 := impl_DigestOK_eq s p c l
    rw [h] at h1
    have h2 := impl_rank s p c l v (dOK_len s p c l h) l.length 0 0 (by omega)
    rw [n0] at h2
    refine Ev.bind h1 (Ev.congr (fun k => ?_) h2)
    rw [if_pos rfl]
  · rw [if_neg h]
    have h1 := impl_DigestOK_eq s p c l
    rw [Bool.eq_false_iff.2 h] at h1
    refine Ev.bind h1 (Ev.congr (fun k => ?_) (Ev.now _))
    rw [if_neg Bool.false_ne_true]

theorem FnExactDigestRank (s p c : Int) (l : List Int) (v : Int) (hm : l.length ≤ maxLen) (_ : (Lit.int .i64 v).wf = true) : ∃ k, laws_FnExactDigestRank.f k s p c l v = some true := by
  unfold maxLen at hm
  obtain ⟨z1, z2⟩ := sz_big s p c l hm
  by_cases h : l.length > 1048576
  · refine ⟨0, ?_⟩
    unfold laws_FnExactDigestRank.f
    rw [z1 h, Option.bind_some, if_pos (by decide)]
  · obtain ⟨K1, h1⟩ := spec_Rank_eq s p c l v
    obtain ⟨K2, h2⟩ := impl_Rank_eq s p c l v
    have h1' : ∀ k, K1 ≤ k → spec_DigestRank.f k s p c l v = some (rankTell s p c l v) := h1
    have h2' : ∀ k, K2 ≤ k → impl_DigestRank.f k s p c l v = some (rankTell s p c l v) := h2
    have hd : ∀ k, l.length < k → laws_toDigest.f k s p c l = some (s, p, c, l) := by
      intro k hk
      unfold laws_toDigest.f
      rw [toI l (by omega) _ hk, Option.bind_some]
    refine ⟨K1 + K2 + l.length + 2, ?_⟩
    unfold laws_FnExactDigestRank.f
    rw [z2 (by omega), Option.bind_some, if_neg (by omega), hd _ (by omega), Option.bind_some, h1' _ (by omega), Option.bind_some, Option.bind_some, h2' _ (by omega), Option.bind_some, if_pos rfl, if_pos rfl, bne_self_eq_false, laws_FnExactDigestRank.j0, if_neg Bool.false_ne_true, hd _ (by omega), Option.bind_some]
    unfold laws_eqDigest.f
    rw [eqI l (by omega) _ (by omega)]
    simp

end Go.Proofs.Ytfkejcakklpecaa.Pure
