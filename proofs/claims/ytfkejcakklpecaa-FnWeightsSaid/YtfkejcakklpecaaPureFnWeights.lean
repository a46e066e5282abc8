/- Whatever the code, Weight tells the reference's number, never below none, falling with how many have the term; Strength and Log2 likewise rise and fall as told: the law answers true. No condition. -/
import Derived.Test.YtfkejcakklpecaaXFnWeightsx6
import Derived.Test.YtfkejcakklpecaaKit
import Derived.Lib.ItoaNum
import Derived.Lib.Bytes
import Derived.Test.YtfkejcakklpecaaWfFnWeights
set_option linter.unusedSimpArgs false
set_option linter.unusedVariables false
namespace Go.Proofs.Ytfkejcakklpecaa.Pure
open Go.RowKit Go.Proofs.Ytfkejcakklpecaa.XFnWeights Go.Proofs.YtfkejcakklpecaaW.PrintWords Go.Proofs.YtfkejcakklpecaaW.PrintLast Go.Proofs.YtfkejcakklpecaaW.PrintMore Go.Proofs.Ytfkejcakklpecaa.Kit

theorem Ev.steps {α : Type} {g f : Nat → Option α} {r : α} (c : Nat) (h : ∀ k, g (k + c) = f k) (k : Ev f r) : Ev g r := by
  obtain ⟨K, hK⟩ := k
  refine ⟨K + c, fun n hn => ?_⟩
  have := h (n - c)
  rw [Nat.sub_add_cancel (by omega)] at this
  rw [this]; exact hK _ (by omega)

theorem Ev.pos {α : Type} {c : Prop} [Decidable c] {f g : Nat → Option α} {r : α} (h : c) (k : Ev f r) : Ev (fun n => if c then f n else g n) r := Ev.congr (fun n => if_pos h) k
theorem Ev.neg {α : Type} {c : Prop} [Decidable c] {f g : Nat → Option α} {r : α} (h : ¬ c) (k : Ev g r) : Ev (fun n => if c then f n else g n) r := Ev.congr (fun n => if_neg h) k
theorem Ev.ofEq {α : Type} {x : Option α} {r : α} (h : x = some r) : Ev (fun _ => x) r := ⟨0, fun _ _ => h⟩
theorem Ev.from {α : Type} {g : Nat → Option α} {r : α} (K : Nat) (h : ∀ k, K < k → g k = some r) : Ev g r := ⟨K + 1, fun k hk => h k (by omega)⟩

/-! ### The drawer of drawn inputs: what its bytes and numbers are -/
def BytesOK (s : List Int) : Prop := s.length ≤ 1048576 ∧ ∀ i, i < s.length → 0 ≤ s.getD i 0 ∧ s.getD i 0 ≤ 255
def SeedOK (q : Int) : Prop := 0 ≤ q ∧ q < 2147483648
theorem src_byte (s : List Int) (hs : BytesOK s) (at_ q : Int) (h0 : 0 ≤ at_) (h1 : at_ ≤ 1000000000000) (hq : SeedOK q) :
    ∃ v q', spec_l01Src_byte.f s at_ q = some (v, at_ + 1, q') ∧ 0 ≤ v ∧ v ≤ 255 ∧ SeedOK q' := by
  obtain ⟨q0, q1⟩ := hq
  have e1 : Aside0 (wrap64 (at_ + 1) = at_ + 1) := ⟨w64 (by omega) (by omega)⟩
  have e2 : Aside0 (wrap64 (at_ + 1 - 1) = at_) := ⟨by rw [w64 (by omega) (by omega)]; omega⟩
  have hl := hs.1
  unfold spec_l01Src_byte.f
  rw [e1.out, e2.out]
  by_cases c : at_ + 1 ≤ (s.length : Int)
  · rw [if_pos c, if_pos h0, if_pos (by omega)]
    obtain ⟨n, rfl⟩ : ∃ n : Nat, at_ = n := ⟨at_.toNat, by omega⟩
    obtain ⟨b0, b1⟩ := hs.2 n (by omega)
    rw [rd_nat]
    generalize s.getD n 0 = b at *
    have e3 : Aside0 (wrap64 b = b) := ⟨w64 (by omega) (by omega)⟩
    have e4 : Aside0 (wrap64 (q * 31) = q * 31) := ⟨w64 (by omega) (by omega)⟩
    have e5 : Aside0 (wrap64 (q * 31 + b) = q * 31 + b) := ⟨w64 (by omega) (by omega)⟩
    have e6 : Aside0 (wrap64 (q * 31 + b + 7) = q * 31 + b + 7) := ⟨w64 (by omega) (by omega)⟩
    rw [e3.out, e4.out, e5.out, e6.out, Int.tmod_eq_emod_of_nonneg (by omega)]
    exact ⟨_, _, rfl, b0, b1, by omega, by omega⟩
  · rw [if_neg c]
    by_cases c2 : at_ + 1 > wrap64 (4000 + wrap64 (4 * (s.length : Int)))
    · rw [if_pos c2]; exact ⟨_, _, rfl, by omega, by omega, q0, q1⟩
    · rw [if_neg c2]
      have e4 : Aside0 (wrap64 (q * 1103515245) = q * 1103515245) := ⟨w64 (by omega) (by omega)⟩
      have e5 : Aside0 (wrap64 (q * 1103515245 + 12345) = q * 1103515245 + 12345) := ⟨w64 (by omega) (by omega)⟩
      rw [e4.out, e5.out, Int.tmod_eq_emod_of_nonneg (a := q * 1103515245 + 12345) (by omega)]
      generalize hz : (q * 1103515245 + 12345) % 2147483648 = z
      have z0 : 0 ≤ z := by omega
      have z1 : z < 2147483648 := by omega
      clear hz e4 e5 c2
      have e7 : Aside0 (wrap64 (Int.tdiv z 65536) = z / 65536) := ⟨by rw [Int.tdiv_eq_ediv_of_nonneg z0, w64 (by omega) (by omega)]⟩
      rw [e7.out, Int.tmod_eq_emod_of_nonneg (by omega)]
      exact ⟨_, _, rfl, by omega, by omega, z0, z1⟩
theorem src_next (s : List Int) (hs : BytesOK s) (at_ q n : Int) (h0 : 0 ≤ at_) (h1 : at_ ≤ 100000000000) (hq : SeedOK q) (hn : 1 ≤ n) :
    ∃ v a' q', spec_l01Src_next.f s at_ q n = some (v, a', q') ∧ 0 ≤ v ∧ v < n ∧ at_ ≤ a' ∧ a' ≤ at_ + 3 ∧ SeedOK q' := by
  unfold spec_l01Src_next.f
  by_cases c1 : n ≤ 1
  · rw [if_pos c1]; exact ⟨_, _, _, rfl, by omega, by omega, by omega, by omega, hq⟩
  · rw [if_neg c1]
    obtain ⟨v1, q1, e1, b1, d1, hq1⟩ := src_byte s hs at_ q h0 (by omega) hq
    rw [e1]
    by_cases c2 : n ≤ 256
    · rw [if_pos c2, Option.bind_some, if_neg (by omega)]
      simp only
      rw [Int.tmod_eq_emod_of_nonneg b1]
      exact ⟨_, _, _, rfl, Int.emod_nonneg _ (by omega), Int.emod_lt_of_pos _ (by omega), by omega, by omega, hq1⟩
    · obtain ⟨v2, q2, e2, b2, d2, hq2⟩ := src_byte s hs (at_ + 1) q1 (by omega) (by omega) hq1
      obtain ⟨v3, q3, e3, b3, d3, hq3⟩ := src_byte s hs (at_ + 1 + 1) q2 (by omega) (by omega) hq2
      rw [if_neg c2]
      simp only [Option.bind_some]
      rw [e2]
      simp only [Option.bind_some]
      rw [e3]
      simp only [Option.bind_some]
      rw [if_neg (by omega)]
      have w1 : Aside0 (wrap64 (v1 * 65536) = v1 * 65536) := ⟨w64 (by omega) (by omega)⟩
      have w2 : Aside0 (wrap64 (v2 * 256) = v2 * 256) := ⟨w64 (by omega) (by omega)⟩
      have w3 : Aside0 (wrap64 (v1 * 65536 + v2 * 256) = v1 * 65536 + v2 * 256) := ⟨w64 (by omega) (by omega)⟩
      have w4 : Aside0 (wrap64 (v1 * 65536 + v2 * 256 + v3) = v1 * 65536 + v2 * 256 + v3) := ⟨w64 (by omega) (by omega)⟩
      rw [w1.out, w2.out, w3.out, w4.out, Int.tmod_eq_emod_of_nonneg (by omega)]
      exact ⟨_, _, _, rfl, Int.emod_nonneg _ (by omega), Int.emod_lt_of_pos _ (by omega), by omega, by omega, hq3⟩
theorem src_start (l : List Int) (h : l.length ≤ 1048576) : ∃ q, spec_l01Source.f l = some (l, 0, q) ∧ SeedOK q := by
  unfold spec_l01Source.f
  exact ⟨_, rfl, by omega, by omega⟩

/-- Ten steps of the logarithm's part behind the point. -/
def lgIter : Nat → Int → Int → Int
  | 0, _, n => n
  | d + 1, x, n => if x * x / 1073741824 ≥ 2147483648 then lgIter d (x * x / 1073741824 / 2) (2 * n + 1) else lgIter d (x * x / 1073741824) (2 * n)
def lgX (e : Nat) (v : Int) : Int := if e ≤ 30 then v * 2 ^ (30 - e) else v / 2 ^ (e - 30)
def lgE (v : Int) : Nat := Lib.bitLen v.toNat - 1
/-- The logarithm that both tell. -/
def lg2 (v : Int) : Int := if 1 ≤ v ∧ v ≤ 4611686018427387903 then 1024 * (lgE v : Int) + lgIter 10 (lgX (lgE v) v) 0 else 0

theorem lgE_bounds (v : Int) (h0 : 1 ≤ v) (h1 : v ≤ 4611686018427387903) : (2 : Int) ^ lgE v ≤ v ∧ v < 2 ^ (lgE v + 1) ∧ lgE v ≤ 61 ∧ Lib.bitLen v.toNat = lgE v + 1 := by
  have hv : v.toNat < 2 ^ 64 := by
    have : v.toNat < 18446744073709551616 := by omega
    exact this
  obtain ⟨b1, b2, b3⟩ := Lib.bitLenAux_bounds 64 v.toNat hv (by omega)
  have b1' : 1 ≤ Lib.bitLen v.toNat := b1
  have b2' : 2 ^ (Lib.bitLen v.toNat - 1) ≤ v.toNat := b2
  have b3' : v.toNat < 2 ^ Lib.bitLen v.toNat := b3
  have hle : Lib.bitLen v.toNat ≤ 62 := Lib.bitLen_le v.toNat 62 (by decide) (by
    have : v.toNat < 4611686018427387904 := by omega
    exact this)
  have e1 : lgE v + 1 = Lib.bitLen v.toNat := by unfold lgE; omega
  refine ⟨?_, ?_, by unfold lgE; omega, e1.symm⟩
  · have : ((2 ^ lgE v : Nat) : Int) ≤ (v.toNat : Int) := Int.ofNat_le.2 b2'
    rw [Int.natCast_pow, Int.toNat_of_nonneg (by omega)] at this
    exact this
  · rw [e1]
    have : (v.toNat : Int) < ((2 ^ Lib.bitLen v.toNat : Nat) : Int) := Int.ofNat_lt.2 b3'
    rw [Int.natCast_pow, Int.toNat_of_nonneg (by omega)] at this
    exact this

theorem p2 (a b : Nat) : (2 : Int) ^ (a + b) = 2 ^ a * 2 ^ b := Int.pow_add _ _ _
theorem p2pos (a : Nat) : (0 : Int) < 2 ^ a := Int.pow_pos (by decide)
theorem p2le (a b : Nat) (h : a ≤ b) : (2 : Int) ^ a ≤ 2 ^ b := by
  have := Nat.pow_le_pow_right (n := 2) (by decide) h
  have h := Int.ofNat_le.2 this
  rw [Int.natCast_pow, Int.natCast_pow] at h
  exact h

theorem lgX_bounds (e : Nat) (v : Int) (h0 : (2 : Int) ^ e ≤ v) (h1 : v < 2 ^ (e + 1)) (he : e ≤ 61) : 1073741824 ≤ lgX e v ∧ lgX e v < 2147483648 := by
  unfold lgX
  by_cases c : e ≤ 30
  · rw [if_pos c]
    have q : (0 : Int) < 2 ^ (30 - e) := p2pos _
    have a : (2 : Int) ^ e * 2 ^ (30 - e) = 1073741824 := by rw [← p2, show e + (30 - e) = 30 by omega]; rfl
    have b : (2 : Int) ^ (e + 1) * 2 ^ (30 - e) = 2147483648 := by rw [← p2, show e + 1 + (30 - e) = 31 by omega]; rfl
    constructor
    · rw [← a]; exact Int.mul_le_mul_of_nonneg_right h0 (Int.le_of_lt q)
    · rw [← b]; exact Int.mul_lt_mul_of_pos_right h1 q
  · rw [if_neg c]
    have q : (0 : Int) < 2 ^ (e - 30) := p2pos _
    have a : 1073741824 * (2 : Int) ^ (e - 30) = 2 ^ e := by
      have : (1073741824 : Int) = 2 ^ 30 := rfl
      rw [this, ← p2, show 30 + (e - 30) = e by omega]
    have b : 2147483648 * (2 : Int) ^ (e - 30) = 2 ^ (e + 1) := by
      have : (2147483648 : Int) = 2 ^ 31 := rfl
      rw [this, ← p2, show 31 + (e - 30) = e + 1 by omega]
    constructor
    · exact (Int.le_ediv_iff_mul_le q).2 (by rw [a]; exact h0)
    · exact (Int.ediv_lt_iff_lt_mul q).2 (by rw [b]; exact h1)

theorem sq_bounds (x : Int) (h0 : 1073741824 ≤ x) (h1 : x < 2147483648) : 1152921504606846976 ≤ x * x ∧ x * x < 4611686018427387904 := by
  have a : 1073741824 * 1073741824 ≤ x * x := Int.mul_le_mul h0 h0 (by decide) (by omega)
  have b : x * x ≤ 2147483647 * 2147483647 := Int.mul_le_mul (by omega) (by omega) (by omega) (by decide)
  omega

theorem lgIter_bounds (d : Nat) : ∀ (x n : Int), 0 ≤ n → 0 ≤ lgIter d x n ∧ n * 2 ^ d ≤ lgIter d x n ∧ lgIter d x n < (n + 1) * 2 ^ d := by
  induction d with
  | zero => intro x n hn; simp [lgIter]; omega
  | succ d ih =>
    intro x n hn
    have e : (2 : Int) ^ (d + 1) = 2 ^ d * 2 := Int.pow_succ _ _
    have q := p2pos d
    unfold lgIter
    split
    · obtain ⟨h1, h2, h3⟩ := ih (x * x / 1073741824 / 2) (2 * n + 1) (by omega)
      have e1 : (2 * n + 1 + 1) * (2 : Int) ^ d = (n + 1) * 2 ^ (d + 1) := by rw [e, Int.mul_comm (2 ^ d) 2, ← Int.mul_assoc]; congr 1; omega
      have e2 : (2 * n + 1) * (2 : Int) ^ d = n * 2 ^ (d + 1) + 2 ^ d := by rw [e, Int.add_mul, Int.one_mul, Int.mul_comm (2 ^ d) 2, ← Int.mul_assoc, Int.mul_comm n 2]
      refine ⟨h1, ?_, ?_⟩
      · rw [e2] at h2; generalize n * (2 : Int) ^ (d + 1) = z at *; generalize (2 : Int) ^ d = y at *; omega
      · rw [e1] at h3; exact h3
    · obtain ⟨h1, h2, h3⟩ := ih (x * x / 1073741824) (2 * n) (by omega)
      have e1 : (2 * n + 1) * (2 : Int) ^ d = n * 2 ^ (d + 1) + 2 ^ d := by rw [e, Int.add_mul, Int.one_mul, Int.mul_comm (2 ^ d) 2, ← Int.mul_assoc, Int.mul_comm n 2]
      have e2 : (2 * n) * (2 : Int) ^ d = n * 2 ^ (d + 1) := by rw [e, Int.mul_comm (2 ^ d) 2, ← Int.mul_assoc, Int.mul_comm n 2]
      have e3 : (n + 1) * (2 : Int) ^ (d + 1) = n * 2 ^ (d + 1) + 2 ^ d + 2 ^ d := by rw [Int.add_mul, Int.one_mul, e]; generalize n * ((2 : Int) ^ d * 2) = z; generalize (2 : Int) ^ d = y; omega
      refine ⟨h1, by rw [e2] at h2; exact h2, ?_⟩
      rw [e3]; rw [e1] at h3
      generalize n * (2 : Int) ^ (d + 1) = z at *; generalize (2 : Int) ^ d = y at *; omega

theorem n_small (d : Nat) (n : Int) (h0 : 0 ≤ n) (h : (n + 1) * 2 ^ d ≤ 1024) : n < 1024 := by
  have q := p2pos d
  have : n + 1 ≤ (n + 1) * 2 ^ d := by
    have := Int.mul_le_mul_of_nonneg_left (show (1 : Int) ≤ 2 ^ d from q) (show 0 ≤ n + 1 by omega)
    rw [Int.mul_one] at this; exact this
  generalize (n + 1) * (2 : Int) ^ d = z at *
  omega

theorem dbl (d : Nat) (n : Int) (h : (n + 1) * 2 ^ (d + 1) ≤ 1024) : (2 * n + 1 + 1) * 2 ^ d ≤ 1024 ∧ (2 * n + 1) * 2 ^ d ≤ 1024 := by
  have e : (2 : Int) ^ (d + 1) = 2 ^ d * 2 := Int.pow_succ _ _
  have q := p2pos d
  have e1 : (2 * n + 1 + 1) * (2 : Int) ^ d = (n + 1) * 2 ^ (d + 1) := by rw [e, Int.mul_comm (2 ^ d) 2, ← Int.mul_assoc]; congr 1; omega
  have e2 : (2 * n + 1 + 1) * (2 : Int) ^ d = (2 * n + 1) * 2 ^ d + 2 ^ d := by rw [Int.add_mul (2 * n + 1) 1, Int.one_mul]
  refine ⟨by rw [e1]; exact h, ?_⟩
  rw [← e1, e2] at h
  generalize (2 * n + 1) * (2 : Int) ^ d = z at *; generalize (2 : Int) ^ d = y at *; omega

theorem lg_last (e : Nat) (he : e ≤ 61) (n : Int) (h0 : 0 ≤ n) (h1 : n < 1024) : wrap64 (wrap64 (1024 * (e : Int)) + n) = 1024 * (e : Int) + n := by
  rw [w64 (x := 1024 * (e : Int)) (by omega) (by omega), w64 (by omega) (by omega)]

theorem spec_l1 (e : Nat) (he : e ≤ 61) (d : Nat) (hd10 : d ≤ 10) : ∀ (k : Nat) (x n : Int), d < k → 1073741824 ≤ x → x < 2147483648 → 0 ≤ n → (n + 1) * 2 ^ d ≤ 1024 →
    spec_Log2.l1 k e 1073741824 x n ((10 - d : Nat) : Int) = some (1024 * (e : Int) + lgIter d x n) := by
  induction d with
  | zero =>
    intro k x n hk hx0 hx1 hn hb
    obtain ⟨k, rfl⟩ : ∃ m, k = m + 1 := ⟨k - 1, by omega⟩
    rw [spec_Log2.l1, if_neg (by omega), lg_last e he n hn (n_small 0 n hn hb)]; rfl
  | succ d ih =>
    intro k x n hk hx0 hx1 hn hb
    obtain ⟨k, rfl⟩ : ∃ m, k = m + 1 := ⟨k - 1, by omega⟩
    have hs := n_small (d + 1) n hn hb
    obtain ⟨hb1, hb2⟩ := dbl d n hb
    obtain ⟨s0, s1⟩ := sq_bounds x hx0 hx1
    have e1 : wrap64 (((10 - (d + 1) : Nat) : Int) + 1) = ((10 - d : Nat) : Int) := by rw [w64 (by omega) (by omega)]; omega
    have e2 : wrap64 (x * x) = x * x := w64 (by omega) (by omega)
    have e3 : Int.tdiv (x * x) 1073741824 = x * x / 1073741824 := Int.tdiv_eq_ediv_of_nonneg (by omega)
    have e4 : wrap64 (x * x / 1073741824) = x * x / 1073741824 := w64 (by omega) (by omega)
    have e5 : wrap64 (2 * 1073741824) = 2147483648 := by rw [w64 (by omega) (by omega)]; rfl
    have e6 : wrap64 (2 * n) = 2 * n := w64 (by omega) (by omega)
    have e7 : wrap64 (2 * n + 1) = 2 * n + 1 := w64 (by omega) (by omega)
    rw [spec_Log2.l1, if_pos (by omega), if_neg (by decide), e1, e2, e3, e4, e5, e6, e7]
    unfold lgIter
    by_cases c : x * x / 1073741824 ≥ 2147483648
    · have e8 : Int.tdiv (x * x / 1073741824) 2 = x * x / 1073741824 / 2 := Int.tdiv_eq_ediv_of_nonneg (by omega)
      have e9 : wrap64 (x * x / 1073741824 / 2) = x * x / 1073741824 / 2 := w64 (by omega) (by omega)
      rw [if_pos c, if_pos c, e8, e9]
      exact ih (by omega) k _ _ (by omega) (by omega) (by omega) (by omega) hb1
    · rw [if_neg c, if_neg c]
      exact ih (by omega) k _ _ (by omega) (by omega) (by omega) (by omega) hb2

theorem impl_l0 (e : Nat) (he : e ≤ 61) (d : Nat) (hd10 : d ≤ 10) : ∀ (k : Nat) (x n : Int), d < k → 1073741824 ≤ x → x < 2147483648 → 0 ≤ n → (n + 1) * 2 ^ d ≤ 1024 →
    impl_Log2.l0 k e x n ((10 - d : Nat) : Int) = some (1024 * (e : Int) + lgIter d x n) := by
  induction d with
  | zero =>
    intro k x n hk hx0 hx1 hn hb
    obtain ⟨k, rfl⟩ : ∃ m, k = m + 1 := ⟨k - 1, by omega⟩
    rw [impl_Log2.l0, if_neg (by omega), lg_last e he n hn (n_small 0 n hn hb)]; rfl
  | succ d ih =>
    intro k x n hk hx0 hx1 hn hb
    obtain ⟨k, rfl⟩ : ∃ m, k = m + 1 := ⟨k - 1, by omega⟩
    have hs := n_small (d + 1) n hn hb
    obtain ⟨hb1, hb2⟩ := dbl d n hb
    obtain ⟨s0, s1⟩ := sq_bounds x hx0 hx1
    have e1 : wrap64 (((10 - (d + 1) : Nat) : Int) + 1) = ((10 - d : Nat) : Int) := by rw [w64 (by omega) (by omega)]; omega
    have e2 : wrap64 (x * x) = x * x := w64 (by omega) (by omega)
    have e6 : wrap64 (n * 2) = 2 * n := by rw [w64 (by omega) (by omega)]; omega
    have e7 : wrap64 (2 * n + 1) = 2 * n + 1 := w64 (by omega) (by omega)
    rw [impl_Log2.l0, if_pos (by omega), e1, e2, e6, e7]
    unfold lgIter
    by_cases c : x * x / 1073741824 ≥ 2147483648
    · have e8 : Int.tdiv (x * x / 1073741824) 2 = x * x / 1073741824 / 2 := Int.tdiv_eq_ediv_of_nonneg (by omega)
      have e9 : wrap64 (x * x / 1073741824 / 2) = x * x / 1073741824 / 2 := w64 (by omega) (by omega)
      rw [if_pos c, if_pos c, e8, e9]
      exact ih (by omega) k _ _ (by omega) (by omega) (by omega) (by omega) hb1
    · rw [if_neg c, if_neg c]
      exact ih (by omega) k _ _ (by omega) (by omega) (by omega) (by omega) hb2

theorem u64_id (x : Int) (h0 : 0 ≤ x) (h1 : x ≤ 9223372036854775807) : IntKind.u64.wrap (wrap64 x) = x := by
  rw [w64 (by omega) h1]; simp [IntKind.wrap, IntKind.bits, IntKind.signed]; omega

theorem shl_is (x : Int) (j : Nat) (hj : j ≤ 63) (h0 : 0 ≤ x * 2 ^ j) (h1 : x * 2 ^ j ≤ 9223372036854775807) : shl .i64 x (j : Int) = x * 2 ^ j := by
  unfold shl
  have e : min ((j : Int)).toNat IntKind.i64.bits = j := by
    have : IntKind.i64.bits = 64 := rfl
    omega
  rw [e, IntKind.wrap_i64]
  generalize x * (2 : Int) ^ j = z at *
  omega

theorem shr_is (x : Int) (j : Nat) (hj : j ≤ 63) : shr .i64 x (j : Int) = x / 2 ^ j := by
  unfold shr
  have e : min ((j : Int)).toNat IntKind.i64.bits = j := by
    have : IntKind.i64.bits = 64 := rfl
    omega
  rw [e]

theorem spec_j2 (e : Nat) (v : Int) (h0 : (2 : Int) ^ e ≤ v) (h1 : v < 2 ^ (e + 1)) (he : e ≤ 61) (k : Nat) (hk : 14 ≤ k) : spec_Log2.j2 k v e = some (1024 * (e : Int) + lgIter 10 (lgX e v) 0) := by
  obtain ⟨k, rfl⟩ : ∃ m, k = m + 2 := ⟨k - 2, by omega⟩
  obtain ⟨x0, x1⟩ := lgX_bounds e v h0 h1 he
  have fin := spec_l1 e he 10 (by omega) k (lgX e v) 0 (by omega) x0 x1 (by omega) (by decide)
  rw [spec_Log2.j2]
  by_cases c : e ≤ 30
  · have ex : lgX e v = v * 2 ^ (30 - e) := by unfold lgX; rw [if_pos c]
    have ew : IntKind.u64.wrap (wrap64 (30 - (e : Int))) = ((30 - e : Nat) : Int) := by rw [u64_id _ (by omega) (by omega)]; omega
    rw [if_pos (by omega), ew, if_pos (by omega), shl_is v (30 - e) (by omega) (by rw [← ex]; omega) (by rw [← ex]; omega), ← ex, spec_Log2.j3]
    exact fin
  · have ex : lgX e v = v / 2 ^ (e - 30) := by unfold lgX; rw [if_neg c]
    have ew : IntKind.u64.wrap (wrap64 ((e : Int) - 30)) = ((e - 30 : Nat) : Int) := by rw [u64_id _ (by omega) (by omega)]; omega
    rw [if_neg (by omega), ew, if_pos (by omega), shr_is v (e - 30) (by omega), ← ex, spec_Log2.j3]
    exact fin

theorem spec_l0 (e : Nat) (v : Int) (h0 : (2 : Int) ^ e ≤ v) (h1 : v < 2 ^ (e + 1)) (he : e ≤ 61) (d : Nat) : ∀ (i m : Nat), i + d = e → spec_Log2.l0 (m + d + 1) v (i : Int) = spec_Log2.j2 m v e := by
  induction d with
  | zero =>
    intro i m hi
    obtain rfl : i = e := by omega
    have ew : IntKind.u64.wrap (wrap64 ((i : Int) + 1)) = ((i + 1 : Nat) : Int) := by rw [u64_id _ (by omega) (by omega)]; omega
    have hp : (2 : Int) ^ (i + 1) ≤ 4611686018427387904 := p2le (i + 1) 62 (by omega)
    rw [Nat.add_zero, spec_Log2.l0, if_pos (by omega), ew, if_pos (by omega), shl_is 1 (i + 1) (by omega) (by rw [Int.one_mul]; exact Int.le_of_lt (p2pos _)) (by rw [Int.one_mul]; exact Int.le_trans hp (by decide)), Int.one_mul, if_neg (Int.not_le.2 h1)]
  | succ d ih =>
    intro i m hi
    have ew : IntKind.u64.wrap (wrap64 ((i : Int) + 1)) = ((i + 1 : Nat) : Int) := by rw [u64_id _ (by omega) (by omega)]; omega
    have hp : (2 : Int) ^ (i + 1) ≤ 4611686018427387904 := p2le (i + 1) 62 (by omega)
    have hle : (2 : Int) ^ (i + 1) ≤ v := Int.le_trans (p2le (i + 1) e (by omega)) h0
    have e1 : wrap64 ((i : Int) + 1) = ((i + 1 : Nat) : Int) := by rw [w64 (by omega) (by omega)]; omega
    rw [show m + (d + 1) + 1 = (m + d + 1) + 1 by omega, spec_Log2.l0, if_pos (by omega), ew, if_pos (by omega), shl_is 1 (i + 1) (by omega) (by rw [Int.one_mul]; exact Int.le_of_lt (p2pos _)) (by rw [Int.one_mul]; exact Int.le_trans hp (by decide)), Int.one_mul, if_pos hle, e1]
    exact ih (i + 1) m (by omega)

theorem spec_Log2_eq (v : Int) (k : Nat) (hk : 80 ≤ k) : spec_Log2.f k v = some (lg2 v) := by
  obtain ⟨k, rfl⟩ : ∃ m, k = m + 1 := ⟨k - 1, by omega⟩
  unfold spec_Log2.f lg2
  by_cases c0 : v < 1
  · rw [if_pos c0, spec_Log2.j0, if_pos rfl, if_neg (by omega)]
  · by_cases c1 : v > 4611686018427387903
    · rw [if_neg c0, decide_eq_true c1, spec_Log2.j0, if_pos rfl, if_neg (by omega)]
    · obtain ⟨b0, b1, b2, b3⟩ := lgE_bounds v (by omega) (by omega)
      have := spec_l0 (lgE v) v b0 b1 b2 (lgE v) 0 (k - lgE v - 1) (by omega)
      rw [show k - lgE v - 1 + lgE v + 1 = k by omega] at this
      rw [if_neg c0, decide_eq_false c1, spec_Log2.j0, if_neg (by decide), if_pos ⟨by omega, by omega⟩]
      have this' : spec_Log2.l0 k v 0 = spec_Log2.j2 (k - lgE v - 1) v (lgE v) := this
      rw [this', spec_j2 (lgE v) v b0 b1 b2 _ (by omega)]

theorem impl_Log2_eq (v : Int) (k : Nat) (hk : 14 ≤ k) : impl_Log2.f k v = some (lg2 v) := by
  obtain ⟨k, rfl⟩ : ∃ m, k = m + 1 := ⟨k - 1, by omega⟩
  unfold impl_Log2.f lg2 impl_within.f
  by_cases c0 : v ≥ 1
  · by_cases c1 : v ≤ 4611686018427387903
    · obtain ⟨b0, b1, b2, b3⟩ := lgE_bounds v (by omega) (by omega)
      obtain ⟨x0, x1⟩ := lgX_bounds (lgE v) v b0 b1 b2
      have fin := impl_l0 (lgE v) b2 10 (by omega) k (lgX (lgE v) v) 0 (by omega) x0 x1 (by omega) (by decide)
      have eu : IntKind.u64.wrap v = v := by simp [IntKind.wrap, IntKind.bits, IntKind.signed]; omega
      have e1 : wrap64 (((lgE v + 1 : Nat) : Int) - 1) = (lgE v : Int) := by rw [w64 (by omega) (by omega)]; omega
      rw [if_pos c0, decide_eq_true c1, if_pos ⟨by omega, c1⟩]
      simp only [Option.bind_some, if_true]
      unfold bits_Len.f
      rw [eu, if_pos (by omega), if_pos (by omega), b3]
      simp only [Option.bind_some]
      rw [e1]
      by_cases c : lgE v ≤ 30
      · have ex : lgX (lgE v) v = v * 2 ^ (30 - lgE v) := by unfold lgX; rw [if_pos c]
        have ew : wrap64 (30 - (lgE v : Int)) = ((30 - lgE v : Nat) : Int) := by rw [w64 (by omega) (by omega)]; omega
        rw [if_pos (by omega), ew, if_pos (by omega), shl_is v (30 - lgE v) (by omega) (by rw [← ex]; omega) (by rw [← ex]; omega), ← ex, impl_Log2.j0]
        exact fin
      · have ex : lgX (lgE v) v = v / 2 ^ (lgE v - 30) := by unfold lgX; rw [if_neg c]
        have ew : wrap64 ((lgE v : Int) - 30) = ((lgE v - 30 : Nat) : Int) := by rw [w64 (by omega) (by omega)]; omega
        rw [if_neg (by omega), ew, if_pos (by omega), shr_is v (lgE v - 30) (by omega), ← ex, impl_Log2.j0]
        exact fin
    · rw [if_pos c0, decide_eq_false c1, if_neg (by omega)]; rfl
  · rw [if_neg c0, if_neg (by omega)]; rfl

theorem within_eq (a lo hi : Int) : impl_within.f a lo hi = some (decide (lo ≤ a ∧ a ≤ hi)) := by
  unfold impl_within.f
  split
  · congr 1; simp; omega
  · congr 1; simp; omega

def good (f l n t : Int) : Bool := decide (1 ≤ f ∧ f ≤ 33554432 ∧ 0 ≤ l ∧ l ≤ 33554432 ∧ 0 ≤ t ∧ t ≤ 33554432 ∧ 0 ≤ n ∧ n ≤ 512)

theorem sf (k : Nat) (f l n t : Int) : spec_Strength.f k f l n t = spec_Strength.j0 k f l n t (!good f l n t) := by
  unfold spec_Strength.f
  (repeat' split) <;> (congr 1; rw [Bool.eq_iff_iff]; simp [good]; try omega)

theorem if' (k : Nat) (f l n t : Int) : impl_Strength.f k f l n t = impl_Strength.j0 k f l n t (!good f l n t) := by
  unfold impl_Strength.f
  simp only [within_eq, Option.bind_some, decide_eq_true_eq]
  (repeat' split) <;> (congr 1; rw [Bool.eq_iff_iff]; simp [good]; try omega)


/-! ### The logarithm rises -/
theorem sq_mono (x y : Int) (h0 : 1073741824 ≤ x) (h : x ≤ y) : x * x / 1073741824 ≤ y * y / 1073741824 := by
  have : x * x ≤ y * y := Int.mul_le_mul h h (by omega) (by omega)
  exact Int.ediv_le_ediv (by decide) this
theorem lgIter_mono (d : Nat) : ∀ (x y n : Int), 0 ≤ n → 1073741824 ≤ x → x ≤ y → y < 2147483648 → lgIter d x n ≤ lgIter d y n := by
  induction d with
  | zero => intro x y n _ _ _ _; exact Int.le_refl _
  | succ d ih =>
    intro x y n hn h0 h h1
    obtain ⟨a0, a1⟩ := sq_bounds x h0 (by omega)
    obtain ⟨b0, b1⟩ := sq_bounds y (by omega) h1
    have hm := sq_mono x y h0 h
    unfold lgIter
    by_cases cx : x * x / 1073741824 ≥ 2147483648
    · rw [if_pos cx, if_pos (by omega)]
      exact ih _ _ _ (by omega) (by omega) (by omega) (by omega)
    · rw [if_neg cx]
      by_cases cy : y * y / 1073741824 ≥ 2147483648
      · rw [if_pos cy]
        have h2 := (lgIter_bounds d (x * x / 1073741824) (2 * n) (by omega)).2.2
        have h3 := (lgIter_bounds d (y * y / 1073741824 / 2) (2 * n + 1) (by omega)).2.1
        exact Int.le_of_lt (Int.lt_of_lt_of_le h2 h3)
      · rw [if_neg cy]
        exact ih _ _ _ (by omega) (by omega) hm (by omega)
theorem lg2_eq (v : Int) (h0 : 1 ≤ v) (h1 : v ≤ 4611686018427387903) : lg2 v = 1024 * (lgE v : Int) + lgIter 10 (lgX (lgE v) v) 0 := by unfold lg2; rw [if_pos ⟨h0, h1⟩]
theorem iter10 (x : Int) : 0 ≤ lgIter 10 x 0 ∧ lgIter 10 x 0 < 1024 := by
  have h := lgIter_bounds 10 x 0 (by omega)
  have e : ((0 : Int) + 1) * 2 ^ 10 = 1024 := by decide
  rw [e] at h
  exact ⟨h.1, h.2.2⟩
theorem lgX_mono (e : Nat) (v w : Int) (h : v ≤ w) : lgX e v ≤ lgX e w := by
  unfold lgX
  by_cases c : e ≤ 30
  · rw [if_pos c, if_pos c]; exact Int.mul_le_mul_of_nonneg_right h (Int.le_of_lt (p2pos _))
  · rw [if_neg c, if_neg c]; exact Int.ediv_le_ediv (p2pos _) h
theorem lg2_mono (v w : Int) (h0 : 1 ≤ v) (h : v ≤ w) (h1 : w ≤ 4611686018427387903) : lg2 v ≤ lg2 w := by
  obtain ⟨a1, a2, a3, _⟩ := lgE_bounds v h0 (by omega)
  obtain ⟨b1, b2, b3, _⟩ := lgE_bounds w (by omega) h1
  rw [lg2_eq v h0 (by omega), lg2_eq w (by omega) h1]
  have he : lgE v ≤ lgE w := by
    by_cases c : lgE v ≤ lgE w
    · exact c
    · exfalso
      have := p2le (lgE w + 1) (lgE v) (by omega)
      omega
  by_cases c : lgE v = lgE w
  · have x0 := (lgX_bounds (lgE v) v a1 a2 a3).1
    have x1 := (lgX_bounds (lgE w) w b1 b2 b3).2
    rw [← c] at x1 ⊢
    have := lgIter_mono 10 _ _ 0 (by omega) x0 (lgX_mono (lgE v) v w h) x1
    omega
  · have i1 := iter10 (lgX (lgE v) v)
    have i2 := iter10 (lgX (lgE w) w)
    omega
theorem lgE_unique (v : Int) (e : Nat) (h0 : 1 ≤ v) (h1 : v ≤ 4611686018427387903) (a : (2 : Int) ^ e ≤ v) (b : v < 2 ^ (e + 1)) : lgE v = e := by
  obtain ⟨a1, a2, a3, _⟩ := lgE_bounds v h0 h1
  by_cases c : lgE v < e
  · have := p2le (lgE v + 1) e (by omega); omega
  · by_cases c2 : e < lgE v
    · have := p2le (e + 1) (lgE v) (by omega); omega
    · omega
theorem lg2_double (v : Int) (h0 : 1 ≤ v) (h1 : v < 1073741824) : lg2 (2 * v) = lg2 v + 1024 := by
  obtain ⟨a1, a2, a3, _⟩ := lgE_bounds v h0 (by omega)
  have he : lgE v ≤ 29 := by
    by_cases c : lgE v ≤ 29
    · exact c
    · exfalso
      have := p2le 30 (lgE v) (by omega)
      have e : (2 : Int) ^ 30 = 1073741824 := by decide
      omega
  have s1 : (2 : Int) ^ (lgE v + 1) = 2 ^ lgE v * 2 := Int.pow_succ _ _
  have s2 : (2 : Int) ^ (lgE v + 1 + 1) = 2 ^ (lgE v + 1) * 2 := Int.pow_succ _ _
  have e2 : lgE (2 * v) = lgE v + 1 := lgE_unique _ _ (by omega) (by omega) (by omega) (by omega)
  rw [lg2_eq _ (by omega) (by omega), lg2_eq v h0 (by omega), e2]
  have hx : lgX (lgE v + 1) (2 * v) = lgX (lgE v) v := by
    unfold lgX
    rw [if_pos (by omega), if_pos (by omega)]
    have s3 : (2 : Int) ^ (30 - lgE v) = 2 ^ (30 - (lgE v + 1)) * 2 := by rw [show 30 - lgE v = 30 - (lgE v + 1) + 1 by omega]; exact Int.pow_succ _ _
    rw [s3, ← Int.mul_assoc, Int.mul_comm (2 * v), ← Int.mul_assoc, Int.mul_comm v (2 ^ (30 - (lgE v + 1))), Int.mul_assoc _ v 2, Int.mul_comm v 2, Int.mul_assoc]
  rw [hx]
  omega
theorem lg2_range (v : Int) (h0 : 1 ≤ v) (h1 : v ≤ 4611686018427387903) : 0 ≤ lg2 v ∧ lg2 v ≤ 65535 := by
  obtain ⟨a1, a2, a3, _⟩ := lgE_bounds v h0 h1
  rw [lg2_eq v h0 h1]
  have := iter10 (lgX (lgE v) v)
  omega
theorem lg2_1024 : lg2 1024 = 10240 := by decide

/-! ### The weight -/
def argW (n d : Int) : Int := 1024 * (2 * n - 2 * d + 1) / (2 * d + 1) + 1024
theorem argW_bounds (n d : Int) (h0 : 0 ≤ d) (h1 : d ≤ n) (h2 : n ≤ 60) : 1024 ≤ argW n d ∧ argW n d ≤ 1000000 := by
  unfold argW
  have a : 0 ≤ 1024 * (2 * n - 2 * d + 1) / (2 * d + 1) := Int.ediv_nonneg (by omega) (by omega)
  have b : 1024 * (2 * n - 2 * d + 1) / (2 * d + 1) ≤ 1024 * (2 * n - 2 * d + 1) := Int.ediv_le_self _ (by omega)
  omega
theorem argW_mono (n d : Int) (h0 : 0 < d) (h1 : d ≤ n) : argW n d ≤ argW n (d - 1) := by
  unfold argW
  have a : 0 ≤ 1024 * (2 * n - 2 * d + 1) / (2 * d + 1) := Int.ediv_nonneg (by omega) (by omega)
  have m := Int.ediv_mul_le (1024 * (2 * n - 2 * d + 1)) (show (2 * d + 1) ≠ 0 by omega)
  have key : 1024 * (2 * n - 2 * d + 1) / (2 * d + 1) ≤ 1024 * (2 * n - 2 * (d - 1) + 1) / (2 * (d - 1) + 1) := by
    refine (Int.le_ediv_iff_mul_le (by omega)).2 ?_
    generalize 1024 * (2 * n - 2 * d + 1) / (2 * d + 1) = z at *
    have : z * (2 * (d - 1) + 1) ≤ z * (2 * d + 1) := Int.mul_le_mul_of_nonneg_left (by omega) a
    generalize z * (2 * (d - 1) + 1) = p at *
    generalize z * (2 * d + 1) = q at *
    omega
  omega
def wt (n d : Int) : Int := lg2 (argW n d) - 10240
theorem wt_pos (n d : Int) (h0 : 0 ≤ d) (h1 : d ≤ n) (h2 : n ≤ 60) : 0 ≤ wt n d := by
  obtain ⟨a, b⟩ := argW_bounds n d h0 h1 h2
  have := lg2_mono 1024 (argW n d) (by omega) a (by omega)
  rw [lg2_1024] at this
  unfold wt; omega
theorem wt_mono (n d : Int) (h0 : 0 < d) (h1 : d ≤ n) (h2 : n ≤ 60) : wt n d ≤ wt n (d - 1) := by
  obtain ⟨a, b⟩ := argW_bounds n d (by omega) h1 h2
  obtain ⟨a', b'⟩ := argW_bounds n (d - 1) (by omega) (by omega) h2
  have := lg2_mono _ _ (by omega) (argW_mono n d h0 h1) (by omega)
  unfold wt; omega
theorem arg_wraps (n d : Int) (h0 : 0 ≤ d) (h1 : d ≤ n) (h2 : n ≤ 60) : wrap64 (wrap64 (2 * d) + 1) = 2 * d + 1 ∧
    wrap64 (wrap64 (Int.tdiv (wrap64 (1024 * wrap64 (wrap64 (wrap64 (2 * n) - wrap64 (2 * d)) + 1))) (2 * d + 1)) + 1024) = argW n d := by
  have e1 : wrap64 (2 * d) = 2 * d := w64 (by omega) (by omega)
  have e2 : wrap64 (2 * n) = 2 * n := w64 (by omega) (by omega)
  have e3 : wrap64 (2 * n - 2 * d) = 2 * n - 2 * d := w64 (by omega) (by omega)
  have e4 : wrap64 (2 * n - 2 * d + 1) = 2 * n - 2 * d + 1 := w64 (by omega) (by omega)
  have e5 : wrap64 (1024 * (2 * n - 2 * d + 1)) = 1024 * (2 * n - 2 * d + 1) := w64 (by omega) (by omega)
  obtain ⟨b0, b1⟩ := argW_bounds n d h0 h1 h2
  refine ⟨by rw [e1]; exact w64 (by omega) (by omega), ?_⟩
  rw [e1, e2, e3, e4, e5, Int.tdiv_eq_ediv_of_nonneg (by omega)]
  unfold argW at b0 b1 ⊢
  generalize 1024 * (2 * n - 2 * d + 1) / (2 * d + 1) = z at *
  rw [w64 (x := z) (by omega) (by omega), w64 (by omega) (by omega)]
theorem wt_wrap (n d : Int) (h0 : 0 ≤ d) (h1 : d ≤ n) (h2 : n ≤ 60) : wrap64 (lg2 (argW n d) - 10240) = wt n d := by
  obtain ⟨b0, b1⟩ := argW_bounds n d h0 h1 h2
  have := lg2_range (argW n d) (by omega) (by omega)
  unfold wt; exact w64 (by omega) (by omega)
theorem impl_Weight_eq (n d : Int) (h0 : 0 ≤ d) (h1 : d ≤ n) (h2 : n ≤ 60) : Ev (fun k => impl_Weight.f k n d) (wt n d) := by
  obtain ⟨e1, e2⟩ := arg_wraps n d h0 h1 h2
  unfold impl_Weight.f
  refine Ev.neg (by omega) (Ev.bind (Ev.ofEq (within_eq d 0 n)) (Ev.pos (decide_eq_true ⟨h0, h1⟩) ?_))
  rw [e1]
  refine Ev.neg (by omega) ?_
  rw [e2]
  refine Ev.bind (Ev.from 13 fun k hk => impl_Log2_eq _ k (by omega)) ?_
  rw [wt_wrap n d h0 h1 h2]; exact Ev.now _
theorem spec_Weight_eq (n d : Int) (h0 : 0 ≤ d) (h1 : d ≤ n) (h2 : n ≤ 60) : Ev (fun k => spec_Weight.f k n d) (wt n d) := by
  obtain ⟨e1, e2⟩ := arg_wraps n d h0 h1 h2
  unfold spec_Weight.f
  refine Ev.neg (by omega) (Ev.neg (by omega) (Ev.neg (by omega) ?_))
  rw [e1]
  refine Ev.neg (by omega) ?_
  rw [e2]
  refine Ev.bind (Ev.from 79 fun k hk => spec_Log2_eq _ k (by omega)) ?_
  rw [wt_wrap n d h0 h1 h2]; exact Ev.now _

/-! ### The strength -/
def den (f l n : Int) : Int := 1000 * f + 300 + 900 * l * n / (50 * n)
def str (f l n : Int) : Int := 2200000 * f / den f l n
theorem quot_ok (l n : Int) (h0 : 0 ≤ l) (h1 : l ≤ 400) (n0 : 1 ≤ n) (n1 : n ≤ 60) : 0 ≤ 900 * l * n / (50 * n) ∧ 900 * l * n / (50 * n) ≤ 21600000 ∧ 0 ≤ 900 * l * n ∧ 900 * l * n ≤ 21600000 := by
  have a : 0 ≤ 900 * l * n := Int.mul_nonneg (by omega) (by omega)
  have b : 900 * l * n ≤ 360000 * 60 := Int.mul_le_mul (by omega) n1 (by omega) (by decide)
  have c : 0 ≤ 900 * l * n / (50 * n) := Int.ediv_nonneg a (by omega)
  have d : 900 * l * n / (50 * n) ≤ 900 * l * n := Int.ediv_le_self _ a
  omega
theorem str_parts (f l n : Int) (f0 : 1 ≤ f) (f1 : f ≤ 40) (h0 : 0 ≤ l) (h1 : l ≤ 400) (n0 : 1 ≤ n) (n1 : n ≤ 60) :
    wrap64 (wrap64 (wrap64 (1000 * f) + 300) + wrap64 (Int.tdiv (wrap64 (wrap64 (900 * l) * n)) (50 * n))) = den f l n ∧ 0 < den f l n ∧ wrap64 (Int.tdiv (wrap64 (2200000 * f)) (den f l n)) = str f l n := by
  obtain ⟨q0, q1, q2, q3⟩ := quot_ok l n h0 h1 n0 n1
  have e1 : wrap64 (900 * l) = 900 * l := w64 (by omega) (by omega)
  have dp : 0 < den f l n := by unfold den; omega
  refine ⟨?_, dp, ?_⟩
  · rw [e1]
    unfold den
    generalize 900 * l * n = m at *
    rw [w64 (x := m) (by omega) (by omega), Int.tdiv_eq_ediv_of_nonneg q2]
    generalize m / (50 * n) = q at *
    rw [w64 (x := q) (by omega) (by omega), w64 (x := 1000 * f) (by omega) (by omega), w64 (x := 1000 * f + 300) (by omega) (by omega), w64 (by omega) (by omega)]
  · unfold str
    rw [w64 (x := 2200000 * f) (by omega) (by omega), Int.tdiv_eq_ediv_of_nonneg (by omega)]
    have a : 0 ≤ 2200000 * f / den f l n := Int.ediv_nonneg (by omega) (by omega)
    have b : 2200000 * f / den f l n ≤ 2200000 * f := Int.ediv_le_self _ (by omega)
    exact w64 (by omega) (by omega)
theorem good_in (f l n : Int) (f0 : 1 ≤ f) (f1 : f ≤ 40) (h0 : 0 ≤ l) (h1 : l ≤ 400) (n0 : 1 ≤ n) (n1 : n ≤ 60) : good f l n (50 * n) = true := decide_eq_true (by omega)
theorem impl_Strength_eq (f l n : Int) (f0 : 1 ≤ f) (f1 : f ≤ 40) (h0 : 0 ≤ l) (h1 : l ≤ 400) (n0 : 1 ≤ n) (n1 : n ≤ 60) : Ev (fun k => impl_Strength.f k f l n (50 * n)) (str f l n) := by
  obtain ⟨e1, e2, e3⟩ := str_parts f l n f0 f1 h0 h1 n0 n1
  refine Ev.congr (fun k => if' k f l n (50 * n)) ?_
  rw [good_in f l n f0 f1 h0 h1 n0 n1]
  refine Ev.step (fun k => by rw [impl_Strength.j0, if_neg (by decide), if_pos (by omega), if_neg (by omega), e1, if_neg (by omega), e3]) (Ev.now _)
theorem spec_Strength_eq (f l n : Int) (f0 : 1 ≤ f) (f1 : f ≤ 40) (h0 : 0 ≤ l) (h1 : l ≤ 400) (n0 : 1 ≤ n) (n1 : n ≤ 60) : Ev (fun k => spec_Strength.f k f l n (50 * n)) (str f l n) := by
  obtain ⟨e1, e2, e3⟩ := str_parts f l n f0 f1 h0 h1 n0 n1
  refine Ev.congr (fun k => sf k f l n (50 * n)) ?_
  rw [good_in f l n f0 f1 h0 h1 n0 n1]
  refine Ev.step (fun k => by rw [spec_Strength.j0, if_neg (by decide), if_pos (by omega), if_neg (by omega), e1, if_neg (by omega), e3]) (Ev.now _)
theorem str_up (f l n : Int) (f0 : 1 ≤ f) (h0 : 0 ≤ l) (h1 : l ≤ 400) (n0 : 1 ≤ n) (n1 : n ≤ 60) : str f l n ≤ str (f + 1) l n := by
  obtain ⟨q0, q1, q2, q3⟩ := quot_ok l n h0 h1 n0 n1
  unfold str
  have ed : den (f + 1) l n = den f l n + 1000 := by unfold den; omega
  have hb : 1000 * f ≤ den f l n := by unfold den; omega
  have dp : 0 < den f l n := by omega
  rw [ed]
  generalize den f l n = b at *
  have z0 : 0 ≤ 2200000 * f / b := Int.ediv_nonneg (by omega) (by omega)
  have zb := Int.ediv_mul_le (2200000 * f) (show b ≠ 0 by omega)
  refine (Int.le_ediv_iff_mul_le (by omega)).2 ?_
  generalize 2200000 * f / b = z at *
  have hz : z ≤ 2200 := by
    by_cases c : z ≤ 2200
    · exact c
    · exfalso
      have := Int.mul_le_mul (show (2201 : Int) ≤ z by omega) hb (by omega) z0
      generalize z * b = p at *
      omega
  rw [Int.mul_add]
  generalize z * b = p at *
  omega
theorem str_down (f l n : Int) (f0 : 1 ≤ f) (h0 : 0 ≤ l) (h1 : l + 7 ≤ 400) (n0 : 1 ≤ n) (n1 : n ≤ 60) : str f (l + 7) n ≤ str f l n := by
  obtain ⟨q0, q1, q2, q3⟩ := quot_ok l n h0 (by omega) n0 n1
  unfold str
  have hq : 900 * l * n / (50 * n) ≤ 900 * (l + 7) * n / (50 * n) := Int.ediv_le_ediv (by omega) (Int.mul_le_mul_of_nonneg_right (by omega) (by omega))
  have hd : den f l n ≤ den f (l + 7) n := by unfold den; omega
  have dp : 0 < den f l n := by unfold den; omega
  generalize den f l n = b at *
  generalize den f (l + 7) n = c at *
  have z0 : 0 ≤ 2200000 * f / c := Int.ediv_nonneg (by omega) (by omega)
  have zb := Int.ediv_mul_le (2200000 * f) (show c ≠ 0 by omega)
  refine (Int.le_ediv_iff_mul_le dp).2 ?_
  generalize 2200000 * f / c = z at *
  have := Int.mul_le_mul_of_nonneg_left hd z0
  omega

/-! ### What is drawn -/
theorem exPos {α : Type} {c : Prop} [Decidable c] {f g : Nat → Option α} (h : c) (k : ∃ r, Ev f r) : ∃ r, Ev (fun n => if c then f n else g n) r := by
  obtain ⟨r, hr⟩ := k; exact ⟨r, Ev.pos h hr⟩
theorem exNeg {α : Type} {c : Prop} [Decidable c] {f g : Nat → Option α} (h : ¬ c) (k : ∃ r, Ev g r) : ∃ r, Ev (fun n => if c then f n else g n) r := by
  obtain ⟨r, hr⟩ := k; exact ⟨r, Ev.neg h hr⟩
theorem at_ex (l : List Int) (hs : BytesOK l) (i n : Int) (h0 : 0 ≤ i) (h1 : i ≤ 1) (hn : 2 ≤ n) (hn2 : n ≤ 1000) : ∃ v, laws_at.f l i n = some v ∧ 0 ≤ v ∧ v < n := by
  have hl := hs.1
  unfold laws_at.f
  rw [if_neg (by omega)]
  by_cases c : (l.length : Int) = 0
  · rw [if_pos c, if_neg (by omega), w64 (x := i * 7) (by omega) (by omega), Int.tmod_eq_emod_of_nonneg (by omega)]
    exact ⟨_, rfl, Int.emod_nonneg _ (by omega), Int.emod_lt_of_pos _ (by omega)⟩
  · have hp : 0 < (l.length : Int) := by omega
    have g : ∀ j : Int, 0 ≤ j → 0 ≤ Int.tmod j (l.length : Int) ∧ Int.tmod j (l.length : Int) < (l.length : Int) ∧ 0 ≤ rd l (Int.tmod j (l.length : Int)) ∧ rd l (Int.tmod j (l.length : Int)) ≤ 255 := by
      intro j hj
      rw [Int.tmod_eq_emod_of_nonneg hj]
      have a := Int.emod_nonneg j (show (l.length : Int) ≠ 0 by omega)
      have b := Int.emod_lt_of_pos j hp
      obtain ⟨m, hm⟩ : ∃ m : Nat, j % (l.length : Int) = m := ⟨(j % (l.length : Int)).toNat, by omega⟩
      rw [hm] at a b ⊢
      rw [rd_nat]
      have := hs.2 m (by omega)
      omega
    have e1 : wrap64 (i + 1) = i + 1 := w64 (by omega) (by omega)
    obtain ⟨a1, a2, a3, a4⟩ := g i h0
    obtain ⟨b1, b2, b3, b4⟩ := g (i + 1) (by omega)
    have d0 : 0 ≤ Int.tdiv i (l.length : Int) := by rw [Int.tdiv_eq_ediv_of_nonneg h0]; exact Int.ediv_nonneg h0 (by omega)
    have d1 : Int.tdiv i (l.length : Int) ≤ i := by rw [Int.tdiv_eq_ediv_of_nonneg h0]; exact Int.ediv_le_self _ h0
    rw [if_neg c, e1, if_pos a1, if_pos a2, if_pos b1, if_pos b2, if_neg (by omega)]
    generalize rd l (Int.tmod i (l.length : Int)) = x at *
    generalize rd l (Int.tmod (i + 1) (l.length : Int)) = y at *
    generalize Int.tdiv i (l.length : Int) = z at *
    rw [w64 (x := x) (by omega) (by omega), w64 (x := x * 31) (by omega) (by omega), w64 (x := y) (by omega) (by omega), w64 (x := x * 31 + y) (by omega) (by omega), w64 (x := z) (by omega) (by omega), w64 (by omega) (by omega), Int.tmod_eq_emod_of_nonneg (by omega)]
    exact ⟨_, rfl, Int.emod_nonneg _ (by omega), Int.emod_lt_of_pos _ (by omega)⟩
theorem chance_ex (s : List Int) (hs : BytesOK s) (at_ q n : Int) (h0 : 0 ≤ at_) (h1 : at_ ≤ 100000000000) (hq : SeedOK q) (hn : 1 ≤ n) :
    ∃ b a' q', spec_l01Src_chance.f s at_ q n = some (b, a', q') ∧ at_ ≤ a' ∧ a' ≤ at_ + 3 ∧ SeedOK q' := by
  obtain ⟨v, a', q', e, _, _, h2, h3, h4⟩ := src_next s hs at_ q n h0 h1 hq hn
  unfold spec_l01Src_chance.f
  rw [e, Option.bind_some]
  exact ⟨_, _, _, rfl, h2, h3, h4⟩
theorem num_ex (s : List Int) (hs : BytesOK s) (at_ q : Int) (h0 : 0 ≤ at_) (h1 : at_ ≤ 10000000000) (hq : SeedOK q) : ∃ r, Ev (fun k => spec_l01Src_num.f k s at_ q) r := by
  obtain ⟨v, a', q', e, v0, v1, h2, h3, h4⟩ := src_next s hs at_ q 12 h0 (by omega) hq (by omega)
  unfold spec_l01Src_num.f
  rw [e]
  simp only [Option.bind_some]
  by_cases c0 : v = 0
  · obtain ⟨v2, a2, q2, e2, b2, c2, h5, h6, h7⟩ := src_next s hs a' q' 10 (by omega) (by omega) h4 (by omega)
    refine exPos c0 ?_
    rw [e2]
    simp only [Option.bind_some]
    exact ⟨_, Ev.pos b2 (Ev.pos (by simp; omega) (Ev.now _))⟩
  · by_cases c1 : v = 1
    · obtain ⟨v2, a2, q2, e2, b2, c2, h5, h6, h7⟩ := src_next s hs a' q' 16777216 (by omega) (by omega) h4 (by omega)
      obtain ⟨v3, a3, q3, e3, b3, c3, h8, h9, h10⟩ := src_next s hs a2 q2 65536 (by omega) (by omega) h7 (by omega)
      refine exNeg c0 (exPos c1 ?_)
      rw [e2]
      simp only [Option.bind_some]
      rw [e3]
      simp only [Option.bind_some]
      exact ⟨_, Ev.now _⟩
    · have j : ∀ b, ∃ r, Ev (fun k => spec_l01Src_num.j0 k b s a' q') r := by
        intro b
        cases b with
        | true =>
          obtain ⟨v2, a2, q2, e2, b2, c2, h5, h6, h7⟩ := src_next s hs a' q' 100000 (by omega) (by omega) h4 (by omega)
          refine ⟨(v2, a2, q2), Ev.step (f := fun _ => some (v2, a2, q2)) (fun k => ?_) (Ev.now _)⟩
          rw [spec_l01Src_num.j0, if_pos rfl, e2]; rfl
        | false =>
          obtain ⟨v2, a2, q2, e2, b2, c2, h5, h6, h7⟩ := src_next s hs a' q' 60 (by omega) (by omega) h4 (by omega)
          refine ⟨(v2, a2, q2), Ev.step (f := fun _ => some (v2, a2, q2)) (fun k => ?_) (Ev.now _)⟩
          rw [spec_l01Src_num.j0, if_neg (by decide), e2]; rfl
      by_cases c2 : v = 2
      · obtain ⟨r, hr⟩ := j (v == 2)
        exact ⟨r, Ev.neg c0 (Ev.neg c1 (Ev.pos c2 hr))⟩
      · obtain ⟨r, hr⟩ := j (v == 3)
        exact ⟨r, Ev.neg c0 (Ev.neg c1 (Ev.neg c2 hr))⟩
theorem odd_ex (s : List Int) (hs : BytesOK s) (at_ q : Int) (h0 : 0 ≤ at_) (h1 : at_ ≤ 1000000000) (hq : SeedOK q) : ∃ r, Ev (fun k => spec_l01Src_oddNum.f k s at_ q) r := by
  obtain ⟨b, a', q', e, h2, h3, h4⟩ := chance_ex s hs at_ q 6 h0 (by omega) hq (by omega)
  unfold spec_l01Src_oddNum.f
  rw [e]
  simp only [Option.bind_some]
  cases b with
  | true =>
    obtain ⟨v2, a2, q2, e2, b2, c2, h5, h6, h7⟩ := src_next s hs a' q' 4 (by omega) (by omega) h4 (by omega)
    refine exPos rfl ?_
    rw [e2]
    simp only [Option.bind_some]
    exact ⟨_, Ev.pos b2 (Ev.pos (by simp; omega) (Ev.now _))⟩
  | false =>
    obtain ⟨r, hr⟩ := num_ex s hs a' q' (by omega) (by omega) h4
    exact ⟨_, Ev.neg (by decide) (Ev.bind hr (Ev.now _))⟩
theorem drawLog_ex (l : List Int) (hs : BytesOK l) : ∃ v, Ev (fun k => spec_DrawLog2.f k l) v := by
  obtain ⟨q0, e0, hq0⟩ := src_start l hs.1
  obtain ⟨b, a1, q1, e1, h2, h3, h4⟩ := chance_ex l hs 0 q0 4 (by omega) (by omega) hq0 (by omega)
  unfold spec_DrawLog2.f
  rw [e0]
  simp only [Option.bind_some]
  rw [e1]
  simp only [Option.bind_some]
  cases b with
  | true =>
    obtain ⟨v2, a2, q2, e2, b2, c2, h5, h6, h7⟩ := src_next l hs a1 q1 62 (by omega) (by omega) h4 (by omega)
    obtain ⟨v3, a3, q3, e3, b3, c3, h8, h9, h10⟩ := src_next l hs a2 q2 3 (by omega) (by omega) h7 (by omega)
    refine exPos rfl ?_
    rw [e2]
    simp only [Option.bind_some]
    refine exPos (by simp [IntKind.wrap, IntKind.bits, IntKind.signed]; omega) ?_
    rw [e3]
    simp only [Option.bind_some]
    exact ⟨_, Ev.now _⟩
  | false =>
    obtain ⟨r, hr⟩ := odd_ex l hs a1 q1 (by omega) (by omega) h4
    exact ⟨_, Ev.neg (by decide) (Ev.bind hr (Ev.now _))⟩

/-! ### The law -/
theorem last_part (v : Int) (b : Bool) (hb : b = false → 1 ≤ v ∧ v ≤ 2305843009213693951) : Ev (fun k => laws_FnWeights.j2 k v b) true := by
  have hi : ∀ x, Ev (fun k => impl_Log2.f k x) (lg2 x) := fun x => Ev.from 13 fun k hk => impl_Log2_eq x k (by omega)
  have hsp : ∀ x, Ev (fun k => spec_Log2.f k x) (lg2 x) := fun x => Ev.from 79 fun k hk => spec_Log2_eq x k (by omega)
  refine Ev.step (fun k => by rw [laws_FnWeights.j2]) ?_
  cases b with
  | true =>
    refine Ev.pos rfl (Ev.bind (hi v) (Ev.bind (hsp v) ?_))
    have e : (lg2 v == lg2 v) = true := beq_self_eq_true _
    rw [e]; exact Ev.now _
  | false =>
    obtain ⟨h0, h1⟩ := hb rfl
    refine Ev.neg (by decide) (Ev.bind (hi v) (Ev.bind (hsp v) (Ev.pos rfl ?_)))
    rw [w64 (x := v + 1) (by omega) (by omega)]
    refine Ev.bind (hi (v + 1)) ?_
    refine Ev.pos (lg2_mono v (v + 1) h0 (by omega) (by omega)) ?_
    by_cases c : v ≥ 1073741824
    · exact Ev.pos c (Ev.now _)
    · refine Ev.neg c ?_
      rw [w64 (x := 2 * v) (by omega) (by omega)]
      refine Ev.bind (hi (2 * v)) ?_
      have r := lg2_range v h0 (by omega)
      have e : (lg2 (2 * v) == wrap64 (lg2 v + 1024)) = true := by rw [w64 (x := lg2 v + 1024) (by omega) (by omega), lg2_double v h0 (by omega)]; exact beq_self_eq_true _
      rw [e]; exact Ev.now _
theorem loop1 (l : List Int) (hs : BytesOK l) (n len : Int) (n0 : 1 ≤ n) (n1 : n ≤ 60) (l0 : 1 ≤ len) (l1 : len ≤ 200) (d : Nat) : ∀ f : Nat, f + d = 20 → 1 ≤ f → Ev (fun k => laws_FnWeights.l1 k l n len (f : Int)) true := by
  induction d with
  | zero =>
    intro f hf _
    obtain ⟨v, hv⟩ := drawLog_ex l hs
    refine Ev.step (f := fun k => (spec_DrawLog2.f k l).bind fun t190 => (if t190 < 1 then (laws_FnWeights.j2 k t190 true) else (laws_FnWeights.j2 k t190 (decide (t190 > 2305843009213693951))))) (fun k => by rw [laws_FnWeights.l1, if_neg (by omega)]) (Ev.bind hv ?_)
    by_cases c : v < 1
    · exact Ev.pos c (last_part v true (fun h => by cases h))
    · exact Ev.neg c (last_part v _ (fun h => by have := of_decide_eq_false h; omega))
  | succ d ih =>
    intro f hf hf1
    have e50 : wrap64 (50 * n) = 50 * n := w64 (by omega) (by omega)
    have ef : wrap64 ((f : Int) + 1) = ((f + 1 : Nat) : Int) := by rw [w64 (by omega) (by omega)]; omega
    have el : wrap64 (len + 7) = len + 7 := w64 (by omega) (by omega)
    refine Ev.step (fun k => by rw [laws_FnWeights.l1, if_pos (by omega), e50, ef, el]) ?_
    refine Ev.bind (impl_Strength_eq f len n (by omega) (by omega) (by omega) (by omega) n0 n1) ?_
    refine Ev.bind (spec_Strength_eq f len n (by omega) (by omega) (by omega) (by omega) n0 n1) (Ev.pos rfl ?_)
    refine Ev.bind (impl_Strength_eq ((f + 1 : Nat) : Int) len n (by omega) (by omega) (by omega) (by omega) n0 n1) ?_
    have u := str_up (f : Int) len n (by omega) (by omega) (by omega) n0 n1
    have dn := str_down (f : Int) len n (by omega) (by omega) (by omega) n0 n1
    have ec : (((f + 1 : Nat) : Int)) = (f : Int) + 1 := by omega
    refine Ev.neg (by rw [ec]; omega) ?_
    refine Ev.bind (impl_Strength_eq f (len + 7) n (by omega) (by omega) (by omega) (by omega) n0 n1) ?_
    exact Ev.neg (by omega) (ih (f + 1) (by omega) (by omega))
theorem loop0 (l : List Int) (n : Nat) (n1 : n ≤ 60) (hr : Ev (fun k => (laws_at.f l 1 200).bind fun t185 => (laws_FnWeights.l1 k l (n : Int) (wrap64 (1 + t185)) 1)) true) (d : Nat) : ∀ i : Nat, i + d = n + 1 → Ev (fun k => laws_FnWeights.l0 k l (n : Int) (i : Int)) true := by
  induction d with
  | zero =>
    intro i hi
    exact Ev.step (fun k => by rw [laws_FnWeights.l0, if_neg (by omega)]) hr
  | succ d ih =>
    intro i hi
    have h' := ih (i + 1) (by omega)
    have e1 : wrap64 ((i : Int) + 1) = ((i + 1 : Nat) : Int) := by rw [w64 (by omega) (by omega)]; omega
    have hp := wt_pos (n : Int) (i : Int) (by omega) (by omega) (by omega)
    refine Ev.step (fun k => by rw [laws_FnWeights.l0, if_pos (by omega), e1]) ?_
    refine Ev.bind (impl_Weight_eq n i (by omega) (by omega) (by omega)) ?_
    refine Ev.bind (spec_Weight_eq n i (by omega) (by omega) (by omega)) ?_
    refine Ev.pos rfl (Ev.neg (by omega) ?_)
    by_cases c : (i : Int) > 0
    · refine Ev.pos c ?_
      have e2 : wrap64 ((i : Int) - 1) = (i : Int) - 1 := w64 (by omega) (by omega)
      rw [e2]
      refine Ev.bind (impl_Weight_eq n ((i : Int) - 1) (by omega) (by omega) (by omega)) ?_
      have hm := wt_mono (n : Int) (i : Int) c (by omega) (by omega)
      exact Ev.neg (by omega) h'
    · exact Ev.neg c h'
theorem FnWeights (l : List Int) (hw : l.length ≤ maxLen ∧ ∀ y0 ∈ l, (Lit.int .u8 y0).wf = true) : ∃ k, laws_FnWeights.f k l = some true := by
  refine Ev.rounds (g := fun k => laws_FnWeights.f k l) ?_
  unfold laws_FnWeights.f
  by_cases h : (l.length : Int) > 1048576
  · exact Ev.pos h (Ev.now _)
  · refine Ev.neg h ?_
    have hs : BytesOK l := by
      refine ⟨by omega, fun i hi => ?_⟩
      have := hw.2 l[i] (List.getElem_mem hi)
      rw [List.getD_eq_getElem?_getD, List.getElem?_eq_getElem hi]
      exact wf8 this
    obtain ⟨v, e, v0, v1⟩ := at_ex l hs 0 60 (by omega) (by omega) (by omega) (by omega)
    obtain ⟨u, e', u0, u1⟩ := at_ex l hs 1 200 (by omega) (by omega) (by omega) (by omega)
    refine Ev.bind (Ev.ofEq e) ?_
    have e1 : wrap64 (1 + v) = ((1 + v).toNat : Int) := by rw [w64 (by omega) (by omega)]; omega
    rw [e1]
    refine loop0 l (1 + v).toNat (by omega) ?_ ((1 + v).toNat + 1) 0 (by omega)
    refine Ev.bind (Ev.ofEq e') ?_
    rw [w64 (x := 1 + u) (by omega) (by omega)]
    exact loop1 l hs _ (1 + u) (by omega) (by omega) (by omega) (by omega) 19 1 (by omega) (by omega)

end Go.Proofs.Ytfkejcakklpecaa.Pure
