/- Whatever the sketch, the program's SketchCount tells what the reference's SketchCount tells and writes into no argument: the law's function answers true. No condition. -/
import Derived.Test.YtchoncnahlcfjaaXFnExactSketchCountx4
import Derived.Test.YtchoncnahlcfjaaKit
import Derived.Lib.ItoaNum
set_option linter.unusedSimpArgs false
set_option linter.unusedVariables false
namespace Go.Proofs.Ytchoncnahlcfjaa.Pure
open Go.RowKit Go.Proofs.Ytchoncnahlcfjaa.XFnExactSketchCount Go.Proofs.YtchoncnahlcfjaaW.PrintWords Go.Proofs.YtchoncnahlcfjaaW.PrintLast Go.Proofs.YtchoncnahlcfjaaW.PrintMore Go.Proofs.Ytchoncnahlcfjaa.Kit

theorem Ev.steps {α : Type} {g f : Nat → Option α} {r : α} (c : Nat) (h : ∀ k, g (k + c) = f k) (k : Ev f r) : Ev g r := by
  obtain ⟨K, hK⟩ := k
  refine ⟨K + c, fun n hn => ?_⟩
  have := h (n - c)
  rw [Nat.sub_add_cancel (by omega)] at this
  rw [this]; exact hK _ (by omega)


theorem n0 : ((0 : Nat) : Int) = 0 := rfl
def slotsFrom (l : List Int) : Nat → Nat → Bool
  | 0, _ => true
  | d + 1, i => !(decide (l.getD i 0 < 0) || decide (25 < l.getD i 0)) && slotsFrom l d (i + 1)
theorem slots_any (l : List Int) (d : Nat) : ∀ i : Nat, i + d = l.length → slotsFrom l d i = !((l.drop i).any fun x => (decide (x < 0) || decide (25 < x))) := by
  induction d with
  | zero =>
    intro i hi
    rw [List.drop_eq_nil_of_le (by omega)]; rfl
  | succ d ih =>
    intro i hi
    have e : l.getD i 0 = l[i] := by simp [List.getD_eq_getElem?_getD, List.getElem?_eq_getElem (show i < l.length by omega)]
    rw [slotsFrom, ih (i + 1) (by omega), List.drop_eq_getElem_cons (show i < l.length by omega), List.any_cons, e]
    generalize (decide (l[i] < 0) || decide (25 < l[i])) = b
    cases b <;> simp
theorem spec_slots (l : List Int) (hl : l.length = 256) (d : Nat) : ∀ i : Nat, i + d = l.length → Ev (fun k => spec_SketchOK.l0 k (i : Int) l) (slotsFrom l d i) := by
  induction d with
  | zero =>
    intro i hi
    refine Ev.step (fun k => ?_) (Ev.now _)
    rw [spec_SketchOK.l0, if_neg (by omega), slotsFrom]
  | succ d ih =>
    intro i hi
    have c0 : (i : Int) < 256 := by omega
    have c1 : (i : Int) < (l.length : Int) := by omega
    have e1 : Aside0 (wrap64 ((i : Int) + 1) = ((i + 1 : Nat) : Int)) := ⟨by rw [w64 (by omega) (by omega)]; omega⟩
    rw [slotsFrom]
    by_cases a1 : l.getD i 0 < 0
    · rw [decide_eq_true a1, Bool.true_or, Bool.not_true, Bool.false_and]
      refine Ev.step (fun k => ?_) (Ev.now _)
      rw [spec_SketchOK.l0, if_pos c0, if_pos (Int.natCast_nonneg _), if_pos c1, rd_nat, if_pos a1]
    · by_cases a2 : 25 < l.getD i 0
      · rw [decide_eq_true a2, Bool.or_true, Bool.not_true, Bool.false_and]
        refine Ev.step (fun k => ?_) (Ev.now _)
        rw [spec_SketchOK.l0, if_pos c0, if_pos (Int.natCast_nonneg _), if_pos c1, rd_nat, if_neg a1, if_pos a2]
      · rw [decide_eq_false a1, decide_eq_false a2, Bool.or_false, Bool.not_false, Bool.true_and]
        refine Ev.step (fun k => ?_) (ih (i + 1) (by omega))
        rw [spec_SketchOK.l0, if_pos c0, if_pos (Int.natCast_nonneg _), if_pos c1, rd_nat, if_neg a1, if_neg a2, e1.out]
theorem spec_SketchOK_eq (l : List Int) : ∃ r, impl_SketchOK.f l = some r ∧ Ev (fun k => spec_SketchOK.f k l) r := by
  by_cases h : (l.length : Int) = 256
  · have hl : l.length = 256 := by omega
    refine ⟨(!(l.any fun x => (decide (x < 0) || decide (25 < x)))), ?_, ?_⟩
    · unfold impl_SketchOK.f; rw [if_pos h]
    · have h1 := spec_slots l hl l.length 0 (by omega)
      rw [slots_any l l.length 0 (by omega), List.drop_zero, n0] at h1
      refine Ev.congr (fun k => ?_) h1
      unfold spec_SketchOK.f; rw [if_pos h]
  · refine ⟨false, ?_, ?_⟩
    · unfold impl_SketchOK.f; rw [if_neg h]
    · refine Ev.congr (f := fun _ => some false) (fun k => ?_) (Ev.now _)
      unfold spec_SketchOK.f; rw [if_neg h]
theorem toI (xs : List Int) (hn : xs.length ≤ 35184372088832) (k : Nat) (hk : xs.length < k) : laws_toIntS.f k xs = some xs := by
  unfold laws_toIntS.f
  rw [if_pos (by omega), if_pos (by omega), Int.toNat_natCast]
  exact toS_all laws_toIntS.l0 (fun _ _ _ _ => rfl) xs (by omega) k hk
theorem eqI (xs : List Int) (hn : xs.length ≤ 140737488351232) (k : Nat) (hk : xs.length < k) : laws_eqIntS.f k xs xs = some true := by
  unfold laws_eqIntS.f
  rw [if_pos rfl]
  exact eqS_all laws_eqIntS.l0 (fun _ _ _ _ => rfl) xs (by omega) k hk
/-- The law's own measure: a longer slice is let by. -/
theorem sz_big (l : List Int) (hm : l.length ≤ 9223372036854775807) : (l.length > 1048576 → laws_szSketch.f l 1048576 = some (-1)) ∧ (l.length ≤ 1048576 → laws_szSketch.f l 1048576 = some (1048576 - (l.length : Int))) := by
  unfold laws_szSketch.f laws_szIntS.f
  have e : Aside0 (wrap64 (1048576 - (l.length : Int)) = 1048576 - (l.length : Int)) := ⟨w64 (by omega) (by omega)⟩
  constructor
  · intro h
    have h0 : 1048576 - (l.length : Int) < 0 := by omega
    rw [e.out, if_pos h0]; rfl
  · intro h
    have h0 : ¬ (1048576 - (l.length : Int) < 0) := by omega
    rw [e.out, if_neg h0, Option.bind_some, if_neg h0]

/-- Ten steps of the logarithm's part behind the point. -/
def lgIter : Nat → Int → Int → Int
  | 0, _, n => n
  | d + 1, x, n => if x * x / 1073741824 ≥ 2147483648 then lgIter d (x * x / 1073741824 / 2) (2 * n + 1) else lgIter d (x * x / 1073741824) (2 * n)
def lgX (e : Nat) (v : Int) : Int := if e ≤ 30 then v * 2 ^ (30 - e) else v / 2 ^ (e - 30)
def lgE (v : Int) : Nat := Lib.bitLen v.toNat - 1
/-- The logarithm that both tell. -/
def lg2 (v : Int) : Int := if 1 ≤ v ∧ v ≤ 4611686018427387903 then 1024 * (lgE v : Int) + lgIter 10 (lgX (lgE v) v) 0 else 0

theorem lgE_bounds (v : Int) (h0 : 1 ≤ v) (h1 : v ≤ 4611686018427387903) : (2 : Int) ^ lgE v ≤ v ∧ v < 2 ^ (lgE v + 1) ∧ lgE v ≤ 61 ∧ Lib.bitLen v.toNat = lgE v + 1 := by
  have hv : v.toNat < 2 ^ 64 := by
    have : v.toNat < 18446744073709551616 := by omega
    exact this
  obtain ⟨b1, b2, b3⟩ := Lib.bitLenAux_bounds 64 v.toNat hv (by omega)
  have b1' : 1 ≤ Lib.bitLen v.toNat := b1
  have b2' : 2 ^ (Lib.bitLen v.toNat - 1) ≤ v.toNat := b2
  have b3' : v.toNat < 2 ^ Lib.bitLen v.toNat := b3
  have hle : Lib.bitLen v.toNat ≤ 62 := Lib.bitLen_le v.toNat 62 (by decide) (by
    have : v.toNat < 4611686018427387904 := by omega
    exact this)
  have e1 : lgE v + 1 = Lib.bitLen v.toNat := by unfold lgE; omega
  refine ⟨?_, ?_, by unfold lgE; omega, e1.symm⟩
  · have : ((2 ^ lgE v : Nat) : Int) ≤ (v.toNat : Int) := Int.ofNat_le.2 b2'
    rw [Int.natCast_pow, Int.toNat_of_nonneg (by omega)] at this
    exact this
  · rw [e1]
    have : (v.toNat : Int) < ((2 ^ Lib.bitLen v.toNat : Nat) : Int) := Int.ofNat_lt.2 b3'
    rw [Int.natCast_pow, Int.toNat_of_nonneg (by omega)] at this
    exact this

theorem p2 (a b : Nat) : (2 : Int) ^ (a + b) = 2 ^ a * 2 ^ b := Int.pow_add _ _ _
theorem p2pos (a : Nat) : (0 : Int) < 2 ^ a := Int.pow_pos (by decide)
theorem p2le (a b : Nat) (h : a ≤ b) : (2 : Int) ^ a ≤ 2 ^ b := by
  have := Nat.pow_le_pow_right (n := 2) (by decide) h
  have h := Int.ofNat_le.2 this
  rw [Int.natCast_pow, Int.natCast_pow] at h
  exact h

theorem lgX_bounds (e : Nat) (v : Int) (h0 : (2 : Int) ^ e ≤ v) (h1 : v < 2 ^ (e + 1)) (he : e ≤ 61) : 1073741824 ≤ lgX e v ∧ lgX e v < 2147483648 := by
  unfold lgX
  by_cases c : e ≤ 30
  · rw [if_pos c]
    have q : (0 : Int) < 2 ^ (30 - e) := p2pos _
    have a : (2 : Int) ^ e * 2 ^ (30 - e) = 1073741824 := by rw [← p2, show e + (30 - e) = 30 by omega]; rfl
    have b : (2 : Int) ^ (e + 1) * 2 ^ (30 - e) = 2147483648 := by rw [← p2, show e + 1 + (30 - e) = 31 by omega]; rfl
    constructor
    · rw [← a]; exact Int.mul_le_mul_of_nonneg_right h0 (Int.le_of_lt q)
    · rw [← b]; exact Int.mul_lt_mul_of_pos_right h1 q
  · rw [if_neg c]
    have q : (0 : Int) < 2 ^ (e - 30) := p2pos _
    have a : 1073741824 * (2 : Int) ^ (e - 30) = 2 ^ e := by
      have : (1073741824 : Int) = 2 ^ 30 := rfl
      rw [this, ← p2, show 30 + (e - 30) = e by omega]
    have b : 2147483648 * (2 : Int) ^ (e - 30) = 2 ^ (e + 1) := by
      have : (2147483648 : Int) = 2 ^ 31 := rfl
      rw [this, ← p2, show 31 + (e - 30) = e + 1 by omega]
    constructor
    · exact (Int.le_ediv_iff_mul_le q).2 (by rw [a]; exact h0)
    · exact (Int.ediv_lt_iff_lt_mul q).2 (by rw [b]; exact h1)

theorem sq_bounds (x : Int) (h0 : 1073741824 ≤ x) (h1 : x < 2147483648) : 1152921504606846976 ≤ x * x ∧ x * x < 4611686018427387904 := by
  have a : 1073741824 * 1073741824 ≤ x * x := Int.mul_le_mul h0 h0 (by decide) (by omega)
  have b : x * x ≤ 2147483647 * 2147483647 := Int.mul_le_mul (by omega) (by omega) (by omega) (by decide)
  omega

theorem lgIter_bounds (d : Nat) : ∀ (x n : Int), 0 ≤ n → 0 ≤ lgIter d x n ∧ n * 2 ^ d ≤ lgIter d x n ∧ lgIter d x n < (n + 1) * 2 ^ d := by
  induction d with
  | zero => intro x n hn; simp [lgIter]; omega
  | succ d ih =>
    intro x n hn
    have e : (2 : Int) ^ (d + 1) = 2 ^ d * 2 := Int.pow_succ _ _
    have q := p2pos d
    unfold lgIter
    split
    · obtain ⟨h1, h2, h3⟩ := ih (x * x / 1073741824 / 2) (2 * n + 1) (by omega)
      have e1 : (2 * n + 1 + 1) * (2 : Int) ^ d = (n + 1) * 2 ^ (d + 1) := by rw [e, Int.mul_comm (2 ^ d) 2, ← Int.mul_assoc]; congr 1; omega
      have e2 : (2 * n + 1) * (2 : Int) ^ d = n * 2 ^ (d + 1) + 2 ^ d := by rw [e, Int.add_mul, Int.one_mul, Int.mul_comm (2 ^ d) 2, ← Int.mul_assoc, Int.mul_comm n 2]
      refine ⟨h1, ?_, ?_⟩
      · rw [e2] at h2; generalize n * (2 : Int) ^ (d + 1) = z at *; generalize (2 : Int) ^ d = y at *; omega
      · rw [e1] at h3; exact h3
    · obtain ⟨h1, h2, h3⟩ := ih (x * x / 1073741824) (2 * n) (by omega)
      have e1 : (2 * n + 1) * (2 : Int) ^ d = n * 2 ^ (d + 1) + 2 ^ d := by rw [e, Int.add_mul, Int.one_mul, Int.mul_comm (2 ^ d) 2, ← Int.mul_assoc, Int.mul_comm n 2]
      have e2 : (2 * n) * (2 : Int) ^ d = n * 2 ^ (d + 1) := by rw [e, Int.mul_comm (2 ^ d) 2, ← Int.mul_assoc, Int.mul_comm n 2]
      have e3 : (n + 1) * (2 : Int) ^ (d + 1) = n * 2 ^ (d + 1) + 2 ^ d + 2 ^ d := by rw [Int.add_mul, Int.one_mul, e]; generalize n * ((2 : Int) ^ d * 2) = z; generalize (2 : Int) ^ d = y; omega
      refine ⟨h1, by rw [e2] at h2; exact h2, ?_⟩
      rw [e3]; rw [e1] at h3
      generalize n * (2 : Int) ^ (d + 1) = z at *; generalize (2 : Int) ^ d = y at *; omega

theorem n_small (d : Nat) (n : Int) (h0 : 0 ≤ n) (h : (n + 1) * 2 ^ d ≤ 1024) : n < 1024 := by
  have q := p2pos d
  have : n + 1 ≤ (n + 1) * 2 ^ d := by
    have := Int.mul_le_mul_of_nonneg_left (show (1 : Int) ≤ 2 ^ d from q) (show 0 ≤ n + 1 by omega)
    rw [Int.mul_one] at this; exact this
  generalize (n + 1) * (2 : Int) ^ d = z at *
  omega

theorem dbl (d : Nat) (n : Int) (h : (n + 1) * 2 ^ (d + 1) ≤ 1024) : (2 * n + 1 + 1) * 2 ^ d ≤ 1024 ∧ (2 * n + 1) * 2 ^ d ≤ 1024 := by
  have e : (2 : Int) ^ (d + 1) = 2 ^ d * 2 := Int.pow_succ _ _
  have q := p2pos d
  have e1 : (2 * n + 1 + 1) * (2 : Int) ^ d = (n + 1) * 2 ^ (d + 1) := by rw [e, Int.mul_comm (2 ^ d) 2, ← Int.mul_assoc]; congr 1; omega
  have e2 : (2 * n + 1 + 1) * (2 : Int) ^ d = (2 * n + 1) * 2 ^ d + 2 ^ d := by rw [Int.add_mul (2 * n + 1) 1, Int.one_mul]
  refine ⟨by rw [e1]; exact h, ?_⟩
  rw [← e1, e2] at h
  generalize (2 * n + 1) * (2 : Int) ^ d = z at *; generalize (2 : Int) ^ d = y at *; omega

theorem lg_last (e : Nat) (he : e ≤ 61) (n : Int) (h0 : 0 ≤ n) (h1 : n < 1024) : wrap64 (wrap64 (1024 * (e : Int)) + n) = 1024 * (e : Int) + n := by
  rw [w64 (x := 1024 * (e : Int)) (by omega) (by omega), w64 (by omega) (by omega)]

theorem spec_l1 (e : Nat) (he : e ≤ 61) (d : Nat) (hd10 : d ≤ 10) : ∀ (k : Nat) (x n : Int), d < k → 1073741824 ≤ x → x < 2147483648 → 0 ≤ n → (n + 1) * 2 ^ d ≤ 1024 →
    spec_Log2.l1 k e 1073741824 x n ((10 - d : Nat) : Int) = some (1024 * (e : Int) + lgIter d x n) := by
  induction d with
  | zero =>
    intro k x n hk hx0 hx1 hn hb
    obtain ⟨k, rfl⟩ : ∃ m, k = m + 1 := ⟨k - 1, by omega⟩
    rw [spec_Log2.l1, if_neg (by omega), lg_last e he n hn (n_small 0 n hn hb)]; rfl
  | succ d ih =>
    intro k x n hk hx0 hx1 hn hb
    obtain ⟨k, rfl⟩ : ∃ m, k = m + 1 := ⟨k - 1, by omega⟩
    have hs := n_small (d + 1) n hn hb
    obtain ⟨hb1, hb2⟩ := dbl d n hb
    obtain ⟨s0, s1⟩ := sq_bounds x hx0 hx1
    have e1 : wrap64 (((10 - (d + 1) : Nat) : Int) + 1) = ((10 - d : Nat) : Int) := by rw [w64 (by omega) (by omega)]; omega
    have e2 : wrap64 (x * x) = x * x := w64 (by omega) (by omega)
    have e3 : Int.tdiv (x * x) 1073741824 = x * x / 1073741824 := Int.tdiv_eq_ediv_of_nonneg (by omega)
    have e4 : wrap64 (x * x / 1073741824) = x * x / 1073741824 := w64 (by omega) (by omega)
    have e5 : wrap64 (2 * 1073741824) = 2147483648 := by rw [w64 (by omega) (by omega)]; rfl
    have e6 : wrap64 (2 * n) = 2 * n := w64 (by omega) (by omega)
    have e7 : wrap64 (2 * n + 1) = 2 * n + 1 := w64 (by omega) (by omega)
    rw [spec_Log2.l1, if_pos (by omega), if_neg (by decide), e1, e2, e3, e4, e5, e6, e7]
    unfold lgIter
    by_cases c : x * x / 1073741824 ≥ 2147483648
    · have e8 : Int.tdiv (x * x / 1073741824) 2 = x * x / 1073741824 / 2 := Int.tdiv_eq_ediv_of_nonneg (by omega)
      have e9 : wrap64 (x * x / 1073741824 / 2) = x * x / 1073741824 / 2 := w64 (by omega) (by omega)
      rw [if_pos c, if_pos c, e8, e9]
      exact ih (by omega) k _ _ (by omega) (by omega) (by omega) (by omega) hb1
    · rw [if_neg c, if_neg c]
      exact ih (by omega) k _ _ (by omega) (by omega) (by omega) (by omega) hb2

theorem impl_l0 (e : Nat) (he : e ≤ 61) (d : Nat) (hd10 : d ≤ 10) : ∀ (k : Nat) (x n : Int), d < k → 1073741824 ≤ x → x < 2147483648 → 0 ≤ n → (n + 1) * 2 ^ d ≤ 1024 →
    impl_Log2.l0 k e x n ((10 - d : Nat) : Int) = some (1024 * (e : Int) + lgIter d x n) := by
  induction d with
  | zero =>
    intro k x n hk hx0 hx1 hn hb
    obtain ⟨k, rfl⟩ : ∃ m, k = m + 1 := ⟨k - 1, by omega⟩
    rw [impl_Log2.l0, if_neg (by omega), lg_last e he n hn (n_small 0 n hn hb)]; rfl
  | succ d ih =>
    intro k x n hk hx0 hx1 hn hb
    obtain ⟨k, rfl⟩ : ∃ m, k = m + 1 := ⟨k - 1, by omega⟩
    have hs := n_small (d + 1) n hn hb
    obtain ⟨hb1, hb2⟩ := dbl d n hb
    obtain ⟨s0, s1⟩ := sq_bounds x hx0 hx1
    have e1 : wrap64 (((10 - (d + 1) : Nat) : Int) + 1) = ((10 - d : Nat) : Int) := by rw [w64 (by omega) (by omega)]; omega
    have e2 : wrap64 (x * x) = x * x := w64 (by omega) (by omega)
    have e6 : wrap64 (n * 2) = 2 * n := by rw [w64 (by omega) (by omega)]; omega
    have e7 : wrap64 (2 * n + 1) = 2 * n + 1 := w64 (by omega) (by omega)
    rw [impl_Log2.l0, if_pos (by omega), e1, e2, e6, e7]
    unfold lgIter
    by_cases c : x * x / 1073741824 ≥ 2147483648
    · have e8 : Int.tdiv (x * x / 1073741824) 2 = x * x / 1073741824 / 2 := Int.tdiv_eq_ediv_of_nonneg (by omega)
      have e9 : wrap64 (x * x / 1073741824 / 2) = x * x / 1073741824 / 2 := w64 (by omega) (by omega)
      rw [if_pos c, if_pos c, e8, e9]
      exact ih (by omega) k _ _ (by omega) (by omega) (by omega) (by omega) hb1
    · rw [if_neg c, if_neg c]
      exact ih (by omega) k _ _ (by omega) (by omega) (by omega) (by omega) hb2

theorem u64_id (x : Int) (h0 : 0 ≤ x) (h1 : x ≤ 9223372036854775807) : IntKind.u64.wrap (wrap64 x) = x := by
  rw [w64 (by omega) h1]; simp [IntKind.wrap, IntKind.bits, IntKind.signed]; omega

theorem shl_is (x : Int) (j : Nat) (hj : j ≤ 63) (h0 : 0 ≤ x * 2 ^ j) (h1 : x * 2 ^ j ≤ 9223372036854775807) : shl .i64 x (j : Int) = x * 2 ^ j := by
  unfold shl
  have e : min ((j : Int)).toNat IntKind.i64.bits = j := by
    have : IntKind.i64.bits = 64 := rfl
    omega
  rw [e, IntKind.wrap_i64]
  generalize x * (2 : Int) ^ j = z at *
  omega

theorem shr_is (x : Int) (j : Nat) (hj : j ≤ 63) : shr .i64 x (j : Int) = x / 2 ^ j := by
  unfold shr
  have e : min ((j : Int)).toNat IntKind.i64.bits = j := by
    have : IntKind.i64.bits = 64 := rfl
    omega
  rw [e]

theorem spec_j2 (e : Nat) (v : Int) (h0 : (2 : Int) ^ e ≤ v) (h1 : v < 2 ^ (e + 1)) (he : e ≤ 61) (k : Nat) (hk : 14 ≤ k) : spec_Log2.j2 k v e = some (1024 * (e : Int) + lgIter 10 (lgX e v) 0) := by
  obtain ⟨k, rfl⟩ : ∃ m, k = m + 2 := ⟨k - 2, by omega⟩
  obtain ⟨x0, x1⟩ := lgX_bounds e v h0 h1 he
  have fin := spec_l1 e he 10 (by omega) k (lgX e v) 0 (by omega) x0 x1 (by omega) (by decide)
  rw [spec_Log2.j2]
  by_cases c : e ≤ 30
  · have ex : lgX e v = v * 2 ^ (30 - e) := by unfold lgX; rw [if_pos c]
    have ew : IntKind.u64.wrap (wrap64 (30 - (e : Int))) = ((30 - e : Nat) : Int) := by rw [u64_id _ (by omega) (by omega)]; omega
    rw [if_pos (by omega), ew, if_pos (by omega), shl_is v (30 - e) (by omega) (by rw [← ex]; omega) (by rw [← ex]; omega), ← ex, spec_Log2.j3]
    exact fin
  · have ex : lgX e v = v / 2 ^ (e - 30) := by unfold lgX; rw [if_neg c]
    have ew : IntKind.u64.wrap (wrap64 ((e : Int) - 30)) = ((e - 30 : Nat) : Int) := by rw [u64_id _ (by omega) (by omega)]; omega
    rw [if_neg (by omega), ew, if_pos (by omega), shr_is v (e - 30) (by omega), ← ex, spec_Log2.j3]
    exact fin

theorem spec_l0 (e : Nat) (v : Int) (h0 : (2 : Int) ^ e ≤ v) (h1 : v < 2 ^ (e + 1)) (he : e ≤ 61) (d : Nat) : ∀ (i m : Nat), i + d = e → spec_Log2.l0 (m + d + 1) v (i : Int) = spec_Log2.j2 m v e := by
  induction d with
  | zero =>
    intro i m hi
    obtain rfl : i = e := by omega
    have ew : IntKind.u64.wrap (wrap64 ((i : Int) + 1)) = ((i + 1 : Nat) : Int) := by rw [u64_id _ (by omega) (by omega)]; omega
    have hp : (2 : Int) ^ (i + 1) ≤ 4611686018427387904 := p2le (i + 1) 62 (by omega)
    rw [Nat.add_zero, spec_Log2.l0, if_pos (by omega), ew, if_pos (by omega), shl_is 1 (i + 1) (by omega) (by rw [Int.one_mul]; exact Int.le_of_lt (p2pos _)) (by rw [Int.one_mul]; exact Int.le_trans hp (by decide)), Int.one_mul, if_neg (Int.not_le.2 h1)]
  | succ d ih =>
    intro i m hi
    have ew : IntKind.u64.wrap (wrap64 ((i : Int) + 1)) = ((i + 1 : Nat) : Int) := by rw [u64_id _ (by omega) (by omega)]; omega
    have hp : (2 : Int) ^ (i + 1) ≤ 4611686018427387904 := p2le (i + 1) 62 (by omega)
    have hle : (2 : Int) ^ (i + 1) ≤ v := Int.le_trans (p2le (i + 1) e (by omega)) h0
    have e1 : wrap64 ((i : Int) + 1) = ((i + 1 : Nat) : Int) := by rw [w64 (by omega) (by omega)]; omega
    rw [show m + (d + 1) + 1 = (m + d + 1) + 1 by omega, spec_Log2.l0, if_pos (by omega), ew, if_pos (by omega), shl_is 1 (i + 1) (by omega) (by rw [Int.one_mul]; exact Int.le_of_lt (p2pos _)) (by rw [Int.one_mul]; exact Int.le_trans hp (by decide)), Int.one_mul, if_pos hle, e1]
    exact ih (i + 1) m (by omega)

theorem spec_Log2_eq (v : Int) (k : Nat) (hk : 80 ≤ k) : spec_Log2.f k v = some (lg2 v) := by
  obtain ⟨k, rfl⟩ : ∃ m, k = m + 1 := ⟨k - 1, by omega⟩
  unfold spec_Log2.f lg2
  by_cases c0 : v < 1
  · rw [if_pos c0, spec_Log2.j0, if_pos rfl, if_neg (by omega)]
  · by_cases c1 : v > 4611686018427387903
    · rw [if_neg c0, decide_eq_true c1, spec_Log2.j0, if_pos rfl, if_neg (by omega)]
    · obtain ⟨b0, b1, b2, b3⟩ := lgE_bounds v (by omega) (by omega)
      have := spec_l0 (lgE v) v b0 b1 b2 (lgE v) 0 (k - lgE v - 1) (by omega)
      rw [show k - lgE v - 1 + lgE v + 1 = k by omega] at this
      rw [if_neg c0, decide_eq_false c1, spec_Log2.j0, if_neg (by decide), if_pos ⟨by omega, by omega⟩]
      have this' : spec_Log2.l0 k v 0 = spec_Log2.j2 (k - lgE v - 1) v (lgE v) := this
      rw [this', spec_j2 (lgE v) v b0 b1 b2 _ (by omega)]

theorem impl_Log2_eq (v : Int) (k : Nat) (hk : 14 ≤ k) : impl_Log2.f k v = some (lg2 v) := by
  obtain ⟨k, rfl⟩ : ∃ m, k = m + 1 := ⟨k - 1, by omega⟩
  unfold impl_Log2.f lg2 impl_within.f
  by_cases c0 : v ≥ 1
  · by_cases c1 : v ≤ 4611686018427387903
    · obtain ⟨b0, b1, b2, b3⟩ := lgE_bounds v (by omega) (by omega)
      obtain ⟨x0, x1⟩ := lgX_bounds (lgE v) v b0 b1 b2
      have fin := impl_l0 (lgE v) b2 10 (by omega) k (lgX (lgE v) v) 0 (by omega) x0 x1 (by omega) (by decide)
      have eu : IntKind.u64.wrap v = v := by simp [IntKind.wrap, IntKind.bits, IntKind.signed]; omega
      have e1 : wrap64 (((lgE v + 1 : Nat) : Int) - 1) = (lgE v : Int) := by rw [w64 (by omega) (by omega)]; omega
      rw [if_pos c0, decide_eq_true c1, if_pos ⟨by omega, c1⟩]
      simp only [Option.bind_some, if_true]
      unfold bits_Len.f
      rw [eu, if_pos (by omega), if_pos (by omega), b3]
      simp only [Option.bind_some]
      rw [e1]
      by_cases c : lgE v ≤ 30
      · have ex : lgX (lgE v) v = v * 2 ^ (30 - lgE v) := by unfold lgX; rw [if_pos c]
        have ew : wrap64 (30 - (lgE v : Int)) = ((30 - lgE v : Nat) : Int) := by rw [w64 (by omega) (by omega)]; omega
        rw [if_pos (by omega), ew, if_pos (by omega), shl_is v (30 - lgE v) (by omega) (by rw [← ex]; omega) (by rw [← ex]; omega), ← ex, impl_Log2.j0]
        exact fin
      · have ex : lgX (lgE v) v = v / 2 ^ (lgE v - 30) := by unfold lgX; rw [if_neg c]
        have ew : wrap64 ((lgE v : Int) - 30) = ((lgE v - 30 : Nat) : Int) := by rw [w64 (by omega) (by omega)]; omega
        rw [if_neg (by omega), ew, if_pos (by omega), shr_is v (lgE v - 30) (by omega), ← ex, impl_Log2.j0]
        exact fin
    · rw [if_pos c0, decide_eq_false c1, if_neg (by omega)]; rfl
  · rw [if_neg c0, if_neg (by omega)]; rfl

def cFin (z s : Int) : Int × Int := if z > 0 then (wrap64 (Int.tdiv (wrap64 ((wrap64 (256 * (wrap64 (8192 - lg2 z)))) * 710)) 1048576), 0) else (wrap64 (Int.tdiv (1580547964928 : Int) s), 0)
def cntR (l : List Int) : Nat → Nat → Int → Int → Int × Int
  | 0, _, z, s => cFin z s
  | d + 1, i, z, s => cntR l d (i + 1) (if l.getD i 0 = 0 then z + 1 else z) (s + 1 * 2 ^ (25 - (l.getD i 0).toNat))
theorem spec_in (l : List Int) (z s : Int) (i : Nat) (hi : i < 256) (hs0 : 0 ≤ s) (hs1 : s ≤ 8589934592) (res : Int × Int) (d : Nat) : ∀ (r : Nat) (x : Int), r + d = 25 → 1 ≤ x → x * 2 ^ d ≤ 33554432 →
    Ev (fun k => spec_SketchCount.l0 k z (s + x * 2 ^ d) ((i + 1 : Nat) : Int) l) res → Ev (fun k => spec_SketchCount.l1 k z s (i : Int) x (r : Int) l) res := by
  have e1 : Aside0 (wrap64 ((i : Int) + 1) = ((i + 1 : Nat) : Int)) := ⟨by rw [w64 (by omega) (by omega)]; omega⟩
  induction d with
  | zero =>
    intro r x hr hx hb h
    rw [Int.pow_zero, Int.mul_one] at h hb
    have e2 : Aside0 (wrap64 (s + x) = s + x) := ⟨w64 (by omega) (by omega)⟩
    refine Ev.step (fun k => ?_) h
    rw [spec_SketchCount.l1, if_neg (by omega), e2.out, e1.out]
  | succ d ih =>
    intro r x hr hx hb h
    have ep : x * 2 ^ (d + 1) = (2 * x) * 2 ^ d := by rw [Int.pow_succ, Int.mul_comm ((2 : Int) ^ d) 2, ← Int.mul_assoc, Int.mul_comm x 2]
    rw [ep] at h hb
    have hp : (1 : Int) ≤ 2 ^ d := p2pos d
    have hle : 2 * x * 1 ≤ 2 * x * 2 ^ d := Int.mul_le_mul_of_nonneg_left hp (by omega)
    have hx2 : 2 * x ≤ 33554432 := by rw [Int.mul_one] at hle; exact Int.le_trans hle hb
    have h' := ih (r + 1) (2 * x) (by omega) (by omega) hb h
    clear hle hp ep hb h ih
    have e2 : Aside0 (wrap64 (2 * x) = 2 * x) := ⟨w64 (by omega) (by omega)⟩
    have e3 : Aside0 (wrap64 ((r : Int) + 1) = ((r + 1 : Nat) : Int)) := ⟨by rw [w64 (by omega) (by omega)]; omega⟩
    refine Ev.step (fun k => ?_) h'
    rw [spec_SketchCount.l1, if_pos (by omega), e2.out, e3.out]
theorem slot_pow (m : Nat) : (1 : Int) ≤ 1 * 2 ^ (25 - m) ∧ (1 : Int) * 2 ^ (25 - m) ≤ 33554432 := by
  have h1 : (0 : Int) < 2 ^ (25 - m) := p2pos _
  have h2 : (2 : Int) ^ (25 - m) ≤ 2 ^ 25 := p2le _ _ (by omega)
  have h3 : (2 : Int) ^ 25 = 33554432 := by decide
  rw [h3] at h2
  generalize (2 : Int) ^ (25 - m) = p at *
  omega
theorem spec_cnt (l : List Int) (hl : l.length = 256) (hb : ∀ i, i < 256 → 0 ≤ l.getD i 0 ∧ l.getD i 0 ≤ 25) (d : Nat) : ∀ (i : Nat) (z s : Int), i + d = 256 → 0 ≤ z → z ≤ i → 0 ≤ s → s ≤ (i : Int) * 33554432 → (0 < i → 0 < s) →
    Ev (fun k => spec_SketchCount.l0 k z s (i : Int) l) (cntR l d i z s) := by
  induction d with
  | zero =>
    intro i z s hi hz0 hz1 hs0 hs1 hs2
    have hs : ¬ (s = 0) := by have := hs2 (by omega); omega
    refine Ev.steps 81 (fun k => ?_) (Ev.now _)
    show spec_SketchCount.l0 ((k + 80) + 1) z s (i : Int) l = some (cFin z s)
    rw [spec_SketchCount.l0, if_neg (by omega)]
    unfold cFin
    by_cases c : z > 0
    · rw [if_pos c, if_pos c, spec_Log2_eq z _ (by omega), Option.bind_some]
    · rw [if_neg c, if_neg c, if_neg hs]
  | succ d ih =>
    intro i z s hi hz0 hz1 hs0 hs1 hs2
    obtain ⟨b0, b1⟩ := hb i (by omega)
    obtain ⟨m, hm⟩ : ∃ m : Nat, l.getD i 0 = (m : Int) := ⟨(l.getD i 0).toNat, by omega⟩
    have c0 : (i : Int) < 256 := by omega
    have c1 : (i : Int) < (l.length : Int) := by omega
    rw [cntR, hm, Int.toNat_natCast]
    obtain ⟨q0, q1⟩ := slot_pow m
    rw [hm] at b1
    by_cases hz : m = 0
    · subst hz
      have e1 : Aside0 (wrap64 (z + 1) = z + 1) := ⟨w64 (by omega) (by omega)⟩
      have hin := ih (i + 1) (z + 1) (s + 1 * 2 ^ (25 - 0)) (by omega) (by omega) (by omega) (by omega) (by omega) (by omega)
      have h := spec_in l (z + 1) s i (by omega) hs0 (by omega) _ (25 - 0) 0 1 (by omega) (by omega) q1 hin
      rw [if_pos (by rfl)]
      refine Ev.steps 2 (fun k => ?_) h
      rw [spec_SketchCount.l0, if_pos c0, if_pos (Int.natCast_nonneg _), if_pos c1, rd_nat, hm, if_pos (by rfl), spec_SketchCount.j1, if_pos (Int.natCast_nonneg _), if_pos c1, rd_nat, hm, e1.out]
    · have hz' : ¬ ((m : Int) = 0) := by omega
      have hin := ih (i + 1) z (s + 1 * 2 ^ (25 - m)) (by omega) (by omega) (by omega) (by omega) (by omega) (by omega)
      have h := spec_in l z s i (by omega) hs0 (by omega) _ (25 - m) m 1 (by omega) (by omega) q1 hin
      rw [if_neg hz']
      refine Ev.steps 2 (fun k => ?_) h
      rw [spec_SketchCount.l0, if_pos c0, if_pos (Int.natCast_nonneg _), if_pos c1, rd_nat, hm, if_neg hz', spec_SketchCount.j1, if_pos (Int.natCast_nonneg _), if_pos c1, rd_nat, hm]
theorem impl_cnt (l : List Int) (hl : l.length = 256) (hb : ∀ i, i < 256 → 0 ≤ l.getD i 0 ∧ l.getD i 0 ≤ 25) (d : Nat) : ∀ (i : Nat) (z s : Int), i + d = 256 → 0 ≤ z → z ≤ i → 0 ≤ s → s ≤ (i : Int) * 33554432 → (0 < i → 0 < s) →
    Ev (fun k => impl_SketchCount.l0 k z s l (l.length : Int) (i : Int)) (cntR l d i z s) := by
  induction d with
  | zero =>
    intro i z s hi hz0 hz1 hs0 hs1 hs2
    have hs : ¬ (s = 0) := by have := hs2 (by omega); omega
    refine Ev.steps 81 (fun k => ?_) (Ev.now _)
    show impl_SketchCount.l0 ((k + 80) + 1) z s l (l.length : Int) (i : Int) = some (cFin z s)
    rw [impl_SketchCount.l0, if_neg (by omega)]
    unfold cFin
    by_cases c : z > 0
    · rw [if_pos c, if_pos c, impl_Log2_eq z _ (by omega), Option.bind_some]
    · rw [if_neg c, if_neg c, if_neg hs]
  | succ d ih =>
    intro i z s hi hz0 hz1 hs0 hs1 hs2
    obtain ⟨b0, b1⟩ := hb i (by omega)
    obtain ⟨m, hm⟩ : ∃ m : Nat, l.getD i 0 = (m : Int) := ⟨(l.getD i 0).toNat, by omega⟩
    have c1 : (i : Int) < (l.length : Int) := by omega
    rw [cntR, hm, Int.toNat_natCast]
    obtain ⟨q0, q1⟩ := slot_pow m
    rw [hm] at b1
    have e0 : Aside0 (wrap64 (25 - (m : Int)) = ((25 - m : Nat) : Int)) := ⟨by rw [w64 (by omega) (by omega)]; omega⟩
    have e2 : Aside0 (wrap64 ((i : Int) + 1) = ((i + 1 : Nat) : Int)) := ⟨by rw [w64 (by omega) (by omega)]; omega⟩
    have e3 : Aside0 (shl .i64 1 ((25 - m : Nat) : Int) = 1 * 2 ^ (25 - m)) := ⟨shl_is 1 (25 - m) (by omega) (by omega) (by omega)⟩
    have e4 : Aside0 (wrap64 (s + 1 * 2 ^ (25 - m)) = s + 1 * 2 ^ (25 - m)) := ⟨w64 (by omega) (by omega)⟩
    have c2 : (0 : Int) ≤ ((25 - m : Nat) : Int) := Int.natCast_nonneg _
    by_cases hz : m = 0
    · subst hz
      have e1 : Aside0 (wrap64 (z + 1) = z + 1) := ⟨w64 (by omega) (by omega)⟩
      have hin := ih (i + 1) (z + 1) (s + 1 * 2 ^ (25 - 0)) (by omega) (by omega) (by omega) (by omega) (by omega) (by omega)
      rw [if_pos (by rfl)]
      refine Ev.step (fun k => ?_) hin
      rw [impl_SketchCount.l0, if_pos c1, if_pos (Int.natCast_nonneg _), if_pos c1, rd_nat, hm, if_pos (by rfl), e0.out, if_pos c2, e3.out, e4.out, e1.out, e2.out]
    · have hz' : ¬ ((m : Int) = 0) := by omega
      have hin := ih (i + 1) z (s + 1 * 2 ^ (25 - m)) (by omega) (by omega) (by omega) (by omega) (by omega) (by omega)
      rw [if_neg hz']
      refine Ev.step (fun k => ?_) hin
      rw [impl_SketchCount.l0, if_pos c1, if_pos (Int.natCast_nonneg _), if_pos c1, rd_nat, hm, if_neg hz', e0.out, if_pos c2, e3.out, e4.out, e2.out]
theorem slots_in (l : List Int) (h : (!(l.any fun x => (decide (x < 0) || decide (25 < x)))) = true) (i : Nat) (hi : i < l.length) : 0 ≤ l.getD i 0 ∧ l.getD i 0 ≤ 25 := by
  have e : l.getD i 0 = l[i] := by simp [List.getD_eq_getElem?_getD, List.getElem?_eq_getElem hi]
  have h0 : (l.any fun x => (decide (x < 0) || decide (25 < x))) = false := by simpa using h
  have h1 := (List.any_eq_false.1 h0) l[i] (List.getElem_mem hi)
  rw [e]
  have h2 : ¬ (l[i] < 0 ∨ 25 < l[i]) := by simpa using h1
  omega
theorem count_eq (l : List Int) : ∃ r, Ev (fun k => spec_SketchCount.f k l) r ∧ Ev (fun k => impl_SketchCount.f k l) r := by
  obtain ⟨b, hi, K, hs⟩ := spec_SketchOK_eq l
  have hs' : ∀ k, K ≤ k → spec_SketchOK.f k l = some b := hs
  cases b with
  | false =>
    refine ⟨(0, 1), ⟨K, fun k hk => ?_⟩, ⟨0, fun k hk => ?_⟩⟩
    · show spec_SketchCount.f k l = _
      unfold spec_SketchCount.f
      rw [hs' k hk, Option.bind_some, if_neg Bool.false_ne_true]
    · show impl_SketchCount.f k l = _
      unfold impl_SketchCount.f
      rw [hi, Option.bind_some, if_neg Bool.false_ne_true]
  | true =>
    have hi0 := hi
    unfold impl_SketchOK.f at hi0
    by_cases hl' : (l.length : Int) = 256
    · have hl : l.length = 256 := by omega
      rw [if_pos hl'] at hi0
      have hb := fun i (h : i < 256) => slots_in l (Option.some.inj hi0) i (by omega)
      obtain ⟨K1, h1⟩ := spec_cnt l hl hb 256 0 0 0 (by omega) (by omega) (by omega) (by omega) (by omega) (by omega)
      obtain ⟨K2, h2⟩ := impl_cnt l hl hb 256 0 0 0 (by omega) (by omega) (by omega) (by omega) (by omega) (by omega)
      have h1' : ∀ k, K1 ≤ k → spec_SketchCount.l0 k 0 0 0 l = some (cntR l 256 0 0 0) := h1
      have h2' : ∀ k, K2 ≤ k → impl_SketchCount.l0 k 0 0 l (l.length : Int) 0 = some (cntR l 256 0 0 0) := h2
      refine ⟨cntR l 256 0 0 0, ⟨K + K1, fun k hk => ?_⟩, ⟨K2, fun k hk => ?_⟩⟩
      · show spec_SketchCount.f k l = _
        unfold spec_SketchCount.f
        rw [hs' k (by omega), Option.bind_some, if_pos rfl, h1' k (by omega)]
      · show impl_SketchCount.f k l = _
        unfold impl_SketchCount.f
        rw [hi, Option.bind_some, if_pos rfl, h2' k (by omega)]
    · rw [if_neg hl'] at hi0
      cases hi0
theorem FnExactSketchCount (l : List Int) (hm : l.length ≤ maxLen) : ∃ k, laws_FnExactSketchCount.f k l = some true := by
  unfold maxLen at hm
  obtain ⟨z1, z2⟩ := sz_big l hm
  by_cases h : l.length > 1048576
  · refine ⟨0, ?_⟩
    unfold laws_FnExactSketchCount.f
    rw [z1 h, Option.bind_some, if_pos (by decide)]
  · obtain ⟨r, ⟨K1, h1⟩, ⟨K2, h2⟩⟩ := count_eq l
    have h1' : ∀ k, K1 ≤ k → spec_SketchCount.f k l = some r := h1
    have h2' : ∀ k, K2 ≤ k → impl_SketchCount.f k l = some r := h2
    have hd : ∀ k, l.length < k → laws_toSketch.f k l = some l := by
      intro k hk
      unfold laws_toSketch.f
      rw [toI l (by omega) _ hk, Option.bind_some]
    refine ⟨K1 + K2 + l.length + 2, ?_⟩
    unfold laws_FnExactSketchCount.f
    rw [z2 (by omega), Option.bind_some, if_neg (by omega), hd _ (by omega), Option.bind_some, h1' _ (by omega), Option.bind_some, Option.bind_some, h2' _ (by omega), Option.bind_some, if_pos rfl, bne_self_eq_false]
    show laws_FnExactSketchCount.j0 ((K1 + K2 + l.length + 1) + 1) false l l = some true
    rw [laws_FnExactSketchCount.j0, if_neg Bool.false_ne_true, hd _ (by omega), Option.bind_some]
    unfold laws_eqSketch.f
    rw [eqI l (by omega) _ (by omega)]
    simp

end Go.Proofs.Ytchoncnahlcfjaa.Pure
