/- Whatever the two numbers, the program's Weight tells what the reference's Weight tells: the law answers true. No condition. -/
import Derived.Test.YtfkejcakklpecaaXFnExactWeightx2
import Derived.Test.YtfkejcakklpecaaKit
import Derived.Lib.ItoaNum
set_option linter.unusedSimpArgs false
namespace Go.Proofs.Ytfkejcakklpecaa.Pure
open Go.RowKit Go.Proofs.Ytfkejcakklpecaa.XFnExactWeight Go.Proofs.YtfkejcakklpecaaW.PrintWords Go.Proofs.YtfkejcakklpecaaW.PrintLast Go.Proofs.YtfkejcakklpecaaW.PrintMore Go.Proofs.Ytfkejcakklpecaa.Kit

/-- Ten steps of the logarithm's part behind the point. -/
def lgIter : Nat → Int → Int → Int
  | 0, _, n => n
  | d + 1, x, n => if x * x / 1073741824 ≥ 2147483648 then lgIter d (x * x / 1073741824 / 2) (2 * n + 1) else lgIter d (x * x / 1073741824) (2 * n)
def lgX (e : Nat) (v : Int) : Int := if e ≤ 30 then v * 2 ^ (30 - e) else v / 2 ^ (e - 30)
def lgE (v : Int) : Nat := Lib.bitLen v.toNat - 1
/-- The logarithm that both tell. -/
def lg2 (v : Int) : Int := if 1 ≤ v ∧ v ≤ 4611686018427387903 then 1024 * (lgE v : Int) + lgIter 10 (lgX (lgE v) v) 0 else 0

theorem lgE_bounds (v : Int) (h0 : 1 ≤ v) (h1 : v ≤ 4611686018427387903) : (2 : Int) ^ lgE v ≤ v ∧ v < 2 ^ (lgE v + 1) ∧ lgE v ≤ 61 ∧ Lib.bitLen v.toNat = lgE v + 1 := by
  have hv : v.toNat < 2 ^ 64 := by
    have : v.toNat < 18446744073709551616 := by omega
    exact this
  obtain ⟨b1, b2, b3⟩ := Lib.bitLenAux_bounds 64 v.toNat hv (by omega)
  have b1' : 1 ≤ Lib.bitLen v.toNat := b1
  have b2' : 2 ^ (Lib.bitLen v.toNat - 1) ≤ v.toNat := b2
  have b3' : v.toNat < 2 ^ Lib.bitLen v.toNat := b3
  have hle : Lib.bitLen v.toNat ≤ 62 := Lib.bitLen_le v.toNat 62 (by decide) (by
    have : v.toNat < 4611686018427387904 := by omega
    exact this)
  have e1 : lgE v + 1 = Lib.bitLen v.toNat := by unfold lgE; omega
  refine ⟨?_, ?_, by unfold lgE; omega, e1.symm⟩
  · have : ((2 ^ lgE v : Nat) : Int) ≤ (v.toNat : Int) := Int.ofNat_le.2 b2'
    rw [Int.natCast_pow, Int.toNat_of_nonneg (by omega)] at this
    exact this
  · rw [e1]
    have : (v.toNat : Int) < ((2 ^ Lib.bitLen v.toNat : Nat) : Int) := Int.ofNat_lt.2 b3'
    rw [Int.natCast_pow, Int.toNat_of_nonneg (by omega)] at this
    exact this

theorem p2 (a b : Nat) : (2 : Int) ^ (a + b) = 2 ^ a * 2 ^ b := Int.pow_add _ _ _
theorem p2pos (a : Nat) : (0 : Int) < 2 ^ a := Int.pow_pos (by decide)
theorem p2le (a b : Nat) (h : a ≤ b) : (2 : Int) ^ a ≤ 2 ^ b := by
  have := Nat.pow_le_pow_right (n := 2) (by decide) h
  have h := Int.ofNat_le.2 this
  rw [Int.natCast_pow, Int.natCast_pow] at h
  exact h

theorem lgX_bounds (e : Nat) (v : Int) (h0 : (2 : Int) ^ e ≤ v) (h1 : v < 2 ^ (e + 1)) (he : e ≤ 61) : 1073741824 ≤ lgX e v ∧ lgX e v < 2147483648 := by
  unfold lgX
  by_cases c : e ≤ 30
  · rw [if_pos c]
    have q : (0 : Int) < 2 ^ (30 - e) := p2pos _
    have a : (2 : Int) ^ e * 2 ^ (30 - e) = 1073741824 := by rw [← p2, show e + (30 - e) = 30 by omega]; rfl
    have b : (2 : Int) ^ (e + 1) * 2 ^ (30 - e) = 2147483648 := by rw [← p2, show e + 1 + (30 - e) = 31 by omega]; rfl
    constructor
    · rw [← a]; exact Int.mul_le_mul_of_nonneg_right h0 (Int.le_of_lt q)
    · rw [← b]; exact Int.mul_lt_mul_of_pos_right h1 q
  · rw [if_neg c]
    have q : (0 : Int) < 2 ^ (e - 30) := p2pos _
    have a : 1073741824 * (2 : Int) ^ (e - 30) = 2 ^ e := by
      have : (1073741824 : Int) = 2 ^ 30 := rfl
      rw [this, ← p2, show 30 + (e - 30) = e by omega]
    have b : 2147483648 * (2 : Int) ^ (e - 30) = 2 ^ (e + 1) := by
      have : (2147483648 : Int) = 2 ^ 31 := rfl
      rw [this, ← p2, show 31 + (e - 30) = e + 1 by omega]
    constructor
    · exact (Int.le_ediv_iff_mul_le q).2 (by rw [a]; exact h0)
    · exact (Int.ediv_lt_iff_lt_mul q).2 (by rw [b]; exact h1)

theorem sq_bounds (x : Int) (h0 : 1073741824 ≤ x) (h1 : x < 2147483648) : 1152921504606846976 ≤ x * x ∧ x * x < 4611686018427387904 := by
  have a : 1073741824 * 1073741824 ≤ x * x := Int.mul_le_mul h0 h0 (by decide) (by omega)
  have b : x * x ≤ 2147483647 * 2147483647 := Int.mul_le_mul (by omega) (by omega) (by omega) (by decide)
  omega

theorem lgIter_bounds (d : Nat) : ∀ (x n : Int), 0 ≤ n → 0 ≤ lgIter d x n ∧ n * 2 ^ d ≤ lgIter d x n ∧ lgIter d x n < (n + 1) * 2 ^ d := by
  induction d with
  | zero => intro x n hn; simp [lgIter]; omega
  | succ d ih =>
    intro x n hn
    have e : (2 : Int) ^ (d + 1) = 2 ^ d * 2 := Int.pow_succ _ _
    have q := p2pos d
    unfold lgIter
    split
    · obtain ⟨h1, h2, h3⟩ := ih (x * x / 1073741824 / 2) (2 * n + 1) (by omega)
      have e1 : (2 * n + 1 + 1) * (2 : Int) ^ d = (n + 1) * 2 ^ (d + 1) := by rw [e, Int.mul_comm (2 ^ d) 2, ← Int.mul_assoc]; congr 1; omega
      have e2 : (2 * n + 1) * (2 : Int) ^ d = n * 2 ^ (d + 1) + 2 ^ d := by rw [e, Int.add_mul, Int.one_mul, Int.mul_comm (2 ^ d) 2, ← Int.mul_assoc, Int.mul_comm n 2]
      refine ⟨h1, ?_, ?_⟩
      · rw [e2] at h2; generalize n * (2 : Int) ^ (d + 1) = z at *; generalize (2 : Int) ^ d = y at *; omega
      · rw [e1] at h3; exact h3
    · obtain ⟨h1, h2, h3⟩ := ih (x * x / 1073741824) (2 * n) (by omega)
      have e1 : (2 * n + 1) * (2 : Int) ^ d = n * 2 ^ (d + 1) + 2 ^ d := by rw [e, Int.add_mul, Int.one_mul, Int.mul_comm (2 ^ d) 2, ← Int.mul_assoc, Int.mul_comm n 2]
      have e2 : (2 * n) * (2 : Int) ^ d = n * 2 ^ (d + 1) := by rw [e, Int.mul_comm (2 ^ d) 2, ← Int.mul_assoc, Int.mul_comm n 2]
      have e3 : (n + 1) * (2 : Int) ^ (d + 1) = n * 2 ^ (d + 1) + 2 ^ d + 2 ^ d := by rw [Int.add_mul, Int.one_mul, e]; generalize n * ((2 : Int) ^ d * 2) = z; generalize (2 : Int) ^ d = y; omega
      refine ⟨h1, by rw [e2] at h2; exact h2, ?_⟩
      rw [e3]; rw [e1] at h3
      generalize n * (2 : Int) ^ (d + 1) = z at *; generalize (2 : Int) ^ d = y at *; omega

theorem n_small (d : Nat) (n : Int) (h0 : 0 ≤ n) (h : (n + 1) * 2 ^ d ≤ 1024) : n < 1024 := by
  have q := p2pos d
  have : n + 1 ≤ (n + 1) * 2 ^ d := by
    have := Int.mul_le_mul_of_nonneg_left (show (1 : Int) ≤ 2 ^ d from q) (show 0 ≤ n + 1 by omega)
    rw [Int.mul_one] at this; exact this
  generalize (n + 1) * (2 : Int) ^ d = z at *
  omega

theorem dbl (d : Nat) (n : Int) (h : (n + 1) * 2 ^ (d + 1) ≤ 1024) : (2 * n + 1 + 1) * 2 ^ d ≤ 1024 ∧ (2 * n + 1) * 2 ^ d ≤ 1024 := by
  have e : (2 : Int) ^ (d + 1) = 2 ^ d * 2 := Int.pow_succ _ _
  have q := p2pos d
  have e1 : (2 * n + 1 + 1) * (2 : Int) ^ d = (n + 1) * 2 ^ (d + 1) := by rw [e, Int.mul_comm (2 ^ d) 2, ← Int.mul_assoc]; congr 1; omega
  have e2 : (2 * n + 1 + 1) * (2 : Int) ^ d = (2 * n + 1) * 2 ^ d + 2 ^ d := by rw [Int.add_mul (2 * n + 1) 1, Int.one_mul]
  refine ⟨by rw [e1]; exact h, ?_⟩
  rw [← e1, e2] at h
  generalize (2 * n + 1) * (2 : Int) ^ d = z at *; generalize (2 : Int) ^ d = y at *; omega

theorem lg_last (e : Nat) (he : e ≤ 61) (n : Int) (h0 : 0 ≤ n) (h1 : n < 1024) : wrap64 (wrap64 (1024 * (e : Int)) + n) = 1024 * (e : Int) + n := by
  rw [w64 (x := 1024 * (e : Int)) (by omega) (by omega), w64 (by omega) (by omega)]

theorem spec_l1 (e : Nat) (he : e ≤ 61) (d : Nat) (hd10 : d ≤ 10) : ∀ (k : Nat) (x n : Int), d < k → 1073741824 ≤ x → x < 2147483648 → 0 ≤ n → (n + 1) * 2 ^ d ≤ 1024 →
    spec_Log2.l1 k e 1073741824 x n ((10 - d : Nat) : Int) = some (1024 * (e : Int) + lgIter d x n) := by
  induction d with
  | zero =>
    intro k x n hk hx0 hx1 hn hb
    obtain ⟨k, rfl⟩ : ∃ m, k = m + 1 := ⟨k - 1, by omega⟩
    rw [spec_Log2.l1, if_neg (by omega), lg_last e he n hn (n_small 0 n hn hb)]; rfl
  | succ d ih =>
    intro k x n hk hx0 hx1 hn hb
    obtain ⟨k, rfl⟩ : ∃ m, k = m + 1 := ⟨k - 1, by omega⟩
    have hs := n_small (d + 1) n hn hb
    obtain ⟨hb1, hb2⟩ := dbl d n hb
    obtain ⟨s0, s1⟩ := sq_bounds x hx0 hx1
    have e1 : wrap64 (((10 - (d + 1) : Nat) : Int) + 1) = ((10 - d : Nat) : Int) := by rw [w64 (by omega) (by omega)]; omega
    have e2 : wrap64 (x * x) = x * x := w64 (by omega) (by omega)
    have e3 : Int.tdiv (x * x) 1073741824 = x * x / 1073741824 := Int.tdiv_eq_ediv_of_nonneg (by omega)
    have e4 : wrap64 (x * x / 1073741824) = x * x / 1073741824 := w64 (by omega) (by omega)
    have e5 : wrap64 (2 * 1073741824) = 2147483648 := by rw [w64 (by omega) (by omega)]; rfl
    have e6 : wrap64 (2 * n) = 2 * n := w64 (by omega) (by omega)
    have e7 : wrap64 (2 * n + 1) = 2 * n + 1 := w64 (by omega) (by omega)
    rw [spec_Log2.l1, if_pos (by omega), if_neg (by decide), e1, e2, e3, e4, e5, e6, e7]
    unfold lgIter
    by_cases c : x * x / 1073741824 ≥ 2147483648
    · have e8 : Int.tdiv (x * x / 1073741824) 2 = x * x / 1073741824 / 2 := Int.tdiv_eq_ediv_of_nonneg (by omega)
      have e9 : wrap64 (x * x / 1073741824 / 2) = x * x / 1073741824 / 2 := w64 (by omega) (by omega)
      rw [if_pos c, if_pos c, e8, e9]
      exact ih (by omega) k _ _ (by omega) (by omega) (by omega) (by omega) hb1
    · rw [if_neg c, if_neg c]
      exact ih (by omega) k _ _ (by omega) (by omega) (by omega) (by omega) hb2

theorem impl_l0 (e : Nat) (he : e ≤ 61) (d : Nat) (hd10 : d ≤ 10) : ∀ (k : Nat) (x n : Int), d < k → 1073741824 ≤ x → x < 2147483648 → 0 ≤ n → (n + 1) * 2 ^ d ≤ 1024 →
    impl_Log2.l0 k e x n ((10 - d : Nat) : Int) = some (1024 * (e : Int) + lgIter d x n) := by
  induction d with
  | zero =>
    intro k x n hk hx0 hx1 hn hb
    obtain ⟨k, rfl⟩ : ∃ m, k = m + 1 := ⟨k - 1, by omega⟩
    rw [impl_Log2.l0, if_neg (by omega), lg_last e he n hn (n_small 0 n hn hb)]; rfl
  | succ d ih =>
    intro k x n hk hx0 hx1 hn hb
    obtain ⟨k, rfl⟩ : ∃ m, k = m + 1 := ⟨k - 1, by omega⟩
    have hs := n_small (d + 1) n hn hb
    obtain ⟨hb1, hb2⟩ := dbl d n hb
    obtain ⟨s0, s1⟩ := sq_bounds x hx0 hx1
    have e1 : wrap64 (((10 - (d + 1) : Nat) : Int) + 1) = ((10 - d : Nat) : Int) := by rw [w64 (by omega) (by omega)]; omega
    have e2 : wrap64 (x * x) = x * x := w64 (by omega) (by omega)
    have e6 : wrap64 (n * 2) = 2 * n := by rw [w64 (by omega) (by omega)]; omega
    have e7 : wrap64 (2 * n + 1) = 2 * n + 1 := w64 (by omega) (by omega)
    rw [impl_Log2.l0, if_pos (by omega), e1, e2, e6, e7]
    unfold lgIter
    by_cases c : x * x / 1073741824 ≥ 2147483648
    · have e8 : Int.tdiv (x * x / 1073741824) 2 = x * x / 1073741824 / 2 := Int.tdiv_eq_ediv_of_nonneg (by omega)
      have e9 : wrap64 (x * x / 1073741824 / 2) = x * x / 1073741824 / 2 := w64 (by omega) (by omega)
      rw [if_pos c, if_pos c, e8, e9]
      exact ih (by omega) k _ _ (by omega) (by omega) (by omega) (by omega) hb1
    · rw [if_neg c, if_neg c]
      exact ih (by omega) k _ _ (by omega) (by omega) (by omega) (by omega) hb2

theorem u64_id (x : Int) (h0 : 0 ≤ x) (h1 : x ≤ 9223372036854775807) : IntKind.u64.wrap (wrap64 x) = x := by
  rw [w64 (by omega) h1]; simp [IntKind.wrap, IntKind.bits, IntKind.signed]; omega

theorem shl_is (x : Int) (j : Nat) (hj : j ≤ 63) (h0 : 0 ≤ x * 2 ^ j) (h1 : x * 2 ^ j ≤ 9223372036854775807) : shl .i64 x (j : Int) = x * 2 ^ j := by
  unfold shl
  have e : min ((j : Int)).toNat IntKind.i64.bits = j := by
    have : IntKind.i64.bits = 64 := rfl
    omega
  rw [e, IntKind.wrap_i64]
  generalize x * (2 : Int) ^ j = z at *
  omega

theorem shr_is (x : Int) (j : Nat) (hj : j ≤ 63) : shr .i64 x (j : Int) = x / 2 ^ j := by
  unfold shr
  have e : min ((j : Int)).toNat IntKind.i64.bits = j := by
    have : IntKind.i64.bits = 64 := rfl
    omega
  rw [e]

theorem spec_j2 (e : Nat) (v : Int) (h0 : (2 : Int) ^ e ≤ v) (h1 : v < 2 ^ (e + 1)) (he : e ≤ 61) (k : Nat) (hk : 14 ≤ k) : spec_Log2.j2 k v e = some (1024 * (e : Int) + lgIter 10 (lgX e v) 0) := by
  obtain ⟨k, rfl⟩ : ∃ m, k = m + 2 := ⟨k - 2, by omega⟩
  obtain ⟨x0, x1⟩ := lgX_bounds e v h0 h1 he
  have fin := spec_l1 e he 10 (by omega) k (lgX e v) 0 (by omega) x0 x1 (by omega) (by decide)
  rw [spec_Log2.j2]
  by_cases c : e ≤ 30
  · have ex : lgX e v = v * 2 ^ (30 - e) := by unfold lgX; rw [if_pos c]
    have ew : IntKind.u64.wrap (wrap64 (30 - (e : Int))) = ((30 - e : Nat) : Int) := by rw [u64_id _ (by omega) (by omega)]; omega
    rw [if_pos (by omega), ew, if_pos (by omega), shl_is v (30 - e) (by omega) (by rw [← ex]; omega) (by rw [← ex]; omega), ← ex, spec_Log2.j3]
    exact fin
  · have ex : lgX e v = v / 2 ^ (e - 30) := by unfold lgX; rw [if_neg c]
    have ew : IntKind.u64.wrap (wrap64 ((e : Int) - 30)) = ((e - 30 : Nat) : Int) := by rw [u64_id _ (by omega) (by omega)]; omega
    rw [if_neg (by omega), ew, if_pos (by omega), shr_is v (e - 30) (by omega), ← ex, spec_Log2.j3]
    exact fin

theorem spec_l0 (e : Nat) (v : Int) (h0 : (2 : Int) ^ e ≤ v) (h1 : v < 2 ^ (e + 1)) (he : e ≤ 61) (d : Nat) : ∀ (i m : Nat), i + d = e → spec_Log2.l0 (m + d + 1) v (i : Int) = spec_Log2.j2 m v e := by
  induction d with
  | zero =>
    intro i m hi
    obtain rfl : i = e := by omega
    have ew : IntKind.u64.wrap (wrap64 ((i : Int) + 1)) = ((i + 1 : Nat) : Int) := by rw [u64_id _ (by omega) (by omega)]; omega
    have hp : (2 : Int) ^ (i + 1) ≤ 4611686018427387904 := p2le (i + 1) 62 (by omega)
    rw [Nat.add_zero, spec_Log2.l0, if_pos (by omega), ew, if_pos (by omega), shl_is 1 (i + 1) (by omega) (by rw [Int.one_mul]; exact Int.le_of_lt (p2pos _)) (by rw [Int.one_mul]; exact Int.le_trans hp (by decide)), Int.one_mul, if_neg (Int.not_le.2 h1)]
  | succ d ih =>
    intro i m hi
    have ew : IntKind.u64.wrap (wrap64 ((i : Int) + 1)) = ((i + 1 : Nat) : Int) := by rw [u64_id _ (by omega) (by omega)]; omega
    have hp : (2 : Int) ^ (i + 1) ≤ 4611686018427387904 := p2le (i + 1) 62 (by omega)
    have hle : (2 : Int) ^ (i + 1) ≤ v := Int.le_trans (p2le (i + 1) e (by omega)) h0
    have e1 : wrap64 ((i : Int) + 1) = ((i + 1 : Nat) : Int) := by rw [w64 (by omega) (by omega)]; omega
    rw [show m + (d + 1) + 1 = (m + d + 1) + 1 by omega, spec_Log2.l0, if_pos (by omega), ew, if_pos (by omega), shl_is 1 (i + 1) (by omega) (by rw [Int.one_mul]; exact Int.le_of_lt (p2pos _)) (by rw [Int.one_mul]; exact Int.le_trans hp (by decide)), Int.one_mul, if_pos hle, e1]
    exact ih (i + 1) m (by omega)

theorem spec_Log2_eq (v : Int) (k : Nat) (hk : 80 ≤ k) : spec_Log2.f k v = some (lg2 v) := by
  obtain ⟨k, rfl⟩ : ∃ m, k = m + 1 := ⟨k - 1, by omega⟩
  unfold spec_Log2.f lg2
  by_cases c0 : v < 1
  · rw [if_pos c0, spec_Log2.j0, if_pos rfl, if_neg (by omega)]
  · by_cases c1 : v > 4611686018427387903
    · rw [if_neg c0, decide_eq_true c1, spec_Log2.j0, if_pos rfl, if_neg (by omega)]
    · obtain ⟨b0, b1, b2, b3⟩ := lgE_bounds v (by omega) (by omega)
      have := spec_l0 (lgE v) v b0 b1 b2 (lgE v) 0 (k - lgE v - 1) (by omega)
      rw [show k - lgE v - 1 + lgE v + 1 = k by omega] at this
      rw [if_neg c0, decide_eq_false c1, spec_Log2.j0, if_neg (by decide), if_pos ⟨by omega, by omega⟩]
      have this' : spec_Log2.l0 k v 0 = spec_Log2.j2 (k - lgE v - 1) v (lgE v) := this
      rw [this', spec_j2 (lgE v) v b0 b1 b2 _ (by omega)]

theorem impl_Log2_eq (v : Int) (k : Nat) (hk : 14 ≤ k) : impl_Log2.f k v = some (lg2 v) := by
  obtain ⟨k, rfl⟩ : ∃ m, k = m + 1 := ⟨k - 1, by omega⟩
  unfold impl_Log2.f lg2 impl_within.f
  by_cases c0 : v ≥ 1
  · by_cases c1 : v ≤ 4611686018427387903
    · obtain ⟨b0, b1, b2, b3⟩ := lgE_bounds v (by omega) (by omega)
      obtain ⟨x0, x1⟩ := lgX_bounds (lgE v) v b0 b1 b2
      have fin := impl_l0 (lgE v) b2 10 (by omega) k (lgX (lgE v) v) 0 (by omega) x0 x1 (by omega) (by decide)
      have eu : IntKind.u64.wrap v = v := by simp [IntKind.wrap, IntKind.bits, IntKind.signed]; omega
      have e1 : wrap64 (((lgE v + 1 : Nat) : Int) - 1) = (lgE v : Int) := by rw [w64 (by omega) (by omega)]; omega
      rw [if_pos c0, decide_eq_true c1, if_pos ⟨by omega, c1⟩]
      simp only [Option.bind_some, if_true]
      unfold bits_Len.f
      rw [eu, if_pos (by omega), if_pos (by omega), b3]
      simp only [Option.bind_some]
      rw [e1]
      by_cases c : lgE v ≤ 30
      · have ex : lgX (lgE v) v = v * 2 ^ (30 - lgE v) := by unfold lgX; rw [if_pos c]
        have ew : wrap64 (30 - (lgE v : Int)) = ((30 - lgE v : Nat) : Int) := by rw [w64 (by omega) (by omega)]; omega
        rw [if_pos (by omega), ew, if_pos (by omega), shl_is v (30 - lgE v) (by omega) (by rw [← ex]; omega) (by rw [← ex]; omega), ← ex, impl_Log2.j0]
        exact fin
      · have ex : lgX (lgE v) v = v / 2 ^ (lgE v - 30) := by unfold lgX; rw [if_neg c]
        have ew : wrap64 ((lgE v : Int) - 30) = ((lgE v - 30 : Nat) : Int) := by rw [w64 (by omega) (by omega)]; omega
        rw [if_neg (by omega), ew, if_pos (by omega), shr_is v (lgE v - 30) (by omega), ← ex, impl_Log2.j0]
        exact fin
    · rw [if_pos c0, decide_eq_false c1, if_neg (by omega)]; rfl
  · rw [if_neg c0, if_neg (by omega)]; rfl

theorem FnExactWeight : laws_FnExactWeight.Pure := by
  intro n w _ _
  refine ⟨80, ?_⟩
  unfold laws_FnExactWeight.f spec_Weight.f impl_Weight.f impl_within.f
  simp only [spec_Log2_eq _ 80 (by omega), impl_Log2_eq _ 80 (by omega), Option.bind_some]
  by_cases h0 : w < 0
  · have : ¬ w ≥ 0 := by omega
    simp [h0, this]
  · by_cases h1 : w > n
    · have h2 : ¬ w ≤ n := by omega
      have h3 : w ≥ 0 := by omega
      by_cases h4 : n > 512
      · simp [h0, h1, h4]
      · simp [h0, h1, h4, h3, h2]
    · by_cases h4 : n > 512
      · simp [h0, h1, h4]
      · have h2 : w ≤ n := by omega
        have h3 : w ≥ 0 := by omega
        have e1 : wrap64 (2 * w) = 2 * w := w64 (by omega) (by omega)
        have e2 : wrap64 (2 * w + 1) = 2 * w + 1 := w64 (by omega) (by omega)
        have h5 : ¬ (2 * w + 1 = 0) := by omega
        rw [if_neg h0, if_neg h1, if_neg h4, e1, e2, if_neg h5, if_neg h4, if_pos h3, decide_eq_true h2]
        simp [h5]

end Go.Proofs.Ytfkejcakklpecaa.Pure
