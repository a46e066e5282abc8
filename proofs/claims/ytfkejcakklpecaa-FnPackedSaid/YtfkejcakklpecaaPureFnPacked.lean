/- Whatever the code, what is packed comes back, and neither fewer nor more bytes are taken for it: the law answers true. No condition. -/
import Derived.Test.YtfkejcakklpecaaXFnPackedx11
import Derived.Test.YtfkejcakklpecaaKit
import Derived.Lib.ItoaNum
import Derived.Lib.Bytes
import Derived.Test.YtfkejcakklpecaaWfFnPacked
set_option linter.unusedSimpArgs false
set_option linter.unusedVariables false
namespace Go.Proofs.Ytfkejcakklpecaa.Pure
open Go.RowKit Go.Proofs.Ytfkejcakklpecaa.XFnPacked Go.Proofs.YtfkejcakklpecaaW.PrintWords Go.Proofs.YtfkejcakklpecaaW.PrintLast Go.Proofs.YtfkejcakklpecaaW.PrintMore Go.Proofs.Ytfkejcakklpecaa.Kit

theorem Ev.steps {α : Type} {g f : Nat → Option α} {r : α} (c : Nat) (h : ∀ k, g (k + c) = f k) (k : Ev f r) : Ev g r := by
 obtain ⟨K, hK⟩ := k
 refine ⟨K + c, fun n hn => ?_⟩
 have := h (n - c)
 rw [Nat.sub_add_cancel (by omega)] at this
 rw [this]; exact hK _ (by omega)

theorem Ev.pos {α : Type} {c : Prop} [Decidable c] {f g : Nat → Option α} {r : α} (h : c) (k : Ev f r) : Ev (fun n => if c then f n else g n) r := Ev.congr (fun n => if_pos h) k
theorem Ev.neg {α : Type} {c : Prop} [Decidable c] {f g : Nat → Option α} {r : α} (h : ¬ c) (k : Ev g r) : Ev (fun n => if c then f n else g n) r := Ev.congr (fun n => if_neg h) k
theorem Ev.ofEq {α : Type} {x : Option α} {r : α} (h : x = some r) : Ev (fun _ => x) r := ⟨0, fun _ _ => h⟩
theorem Ev.from {α : Type} {g : Nat → Option α} {r : α} (K : Nat) (h : ∀ k, K < k → g k = some r) : Ev g r := ⟨K + 1, fun k hk => h k (by omega)⟩

mutual
def spec_l03Get.l0 : Nat → List Int → Int → Int → Int → Int → Option (Int × Int × Bool)
 | 0, _, _, _, _, _ => none
 | k + 1, x0, x1, x7, x8, x9 => if x9 < 9 then (spec_l03Get.j1 k x0 x1 x7 x8 x9 (decide ((wrap64 (x1 + x9)) < (x0.length : Int)))) else (spec_l03Get.j1 k x0 x1 x7 x8 x9 false)
def spec_l03Get.j1 : Nat → List Int → Int → Int → Int → Int → Bool → Option (Int × Int × Bool)
 | 0, _, _, _, _, _, _ => none
 | k + 1, x0, x1, x7, x8, x9, x20 => if x20 = true then (if 0 ≤ (wrap64 (x1 + x9)) then (if (wrap64 (x1 + x9)) < (x0.length : Int) then (if x9 = 8 then (spec_l03Get.j2 k x0 x1 x7 x8 x9 (wrap64 (rd x0 (wrap64 (x1 + x9)))) (decide ((wrap64 (rd x0 (wrap64 (x1 + x9)))) > 63))) else (spec_l03Get.j2 k x0 x1 x7 x8 x9 (wrap64 (rd x0 (wrap64 (x1 + x9)))) false)) else (none)) else (none)) else (some (0, 0, false))
def spec_l03Get.j2 : Nat → List Int → Int → Int → Int → Int → Int → Bool → Option (Int × Int × Bool)
 | 0, _, _, _, _, _, _, _ => none
 | k + 1, x0, x1, x7, x8, x9, x10, x35 => if x35 = true then (some (0, 0, false)) else (if x10 < 128 then (if x9 = 0 then (some (wrap64 (x7 + (wrap64 ((Int.tmod x10 128) * x8))), wrap64 ((wrap64 (x1 + x9)) + 1), true)) else (some (wrap64 (x7 + (wrap64 ((Int.tmod x10 128) * x8))), wrap64 ((wrap64 (x1 + x9)) + 1), decide (x10 > 0)))) else (if x9 < 8 then (spec_l03Get.l0 k x0 x1 (wrap64 (x7 + (wrap64 ((Int.tmod x10 128) * x8)))) (wrap64 (x8 * 128)) (wrap64 (x9 + 1))) else (spec_l03Get.l0 k x0 x1 (wrap64 (x7 + (wrap64 ((Int.tmod x10 128) * x8)))) x8 (wrap64 (x9 + 1)))))
end
def spec_l03Get.f (k : Nat) (l0 : List Int) (a1 : Int) : Option (Int × Int × Bool) := spec_l03Get.l0 k l0 a1 0 1 0
/-- What the two tell alike: a number, the place behind it, and whether there is one. -/
def tell (r : Int × Int × Bool) : Int × Int × Int := if r.2.2 = true then (r.1, r.2.1, 0) else (0, 0, 3)

theorem pw (n : Nat) (h : n ≤ 8) : 0 < (128 : Int) ^ n ∧ (128 : Int) ^ n ≤ 72057594037927936 ∧ (2 : Int) ^ (7 * n) = 128 ^ n := by
 refine ⟨Int.pow_pos (by decide), ?_, ?_⟩
 ·have h1 : (128 : Nat) ^ n ≤ 128 ^ 8 := Nat.pow_le_pow_right (by decide) h
  have e9 : (128 : Nat) ^ 8 = 72057594037927936 := by decide
  rw [e9] at h1
  have h2 := Int.ofNat_le.2 h1
  rw [Int.natCast_pow] at h2
  exact h2
 ·rw [Int.pow_mul]; rfl

theorem shl_at (c : Int) (n : Nat) (hn : n ≤ 8) (h0 : 0 ≤ c) (h1 : c ≤ 127) : shl .i64 c (7 * (n : Int)) = c * 128 ^ n := by
 obtain ⟨hp0, hp1, hp2⟩ := pw n hn
 unfold shl
 have e : min (7 * (n : Int)).toNat IntKind.i64.bits = 7 * n := by
  have : IntKind.i64.bits = 64 := rfl
  omega
 rw [e, hp2]
 have hq : c * 128 ^ n ≤ 127 * 128 ^ n := Int.mul_le_mul_of_nonneg_right h1 (by omega)
 have hq0 : 0 ≤ c * 128 ^ n := Int.mul_nonneg h0 (by omega)
 rw [IntKind.wrap_i64]; omega

/-- One step of each of the two, up to its tests: p stands for 128 ^ n. -/
theorem stepS (b : List Int) (at' n : Nat) (v c p : Int) (hl : b.length ≤ 1048576) (hin : at' + n < b.length) (hn : n ≤ 8) (hc : rd b ((at' + n : Nat) : Int) = c) (hc0 : 0 ≤ c) (hc1 : c ≤ 255)
  (hp0 : 0 < p) (hp1 : p ≤ 72057594037927936) (hv0 : 0 ≤ v) (hv1 : v < p) (k : Nat) :
  spec_l03Get.l0 (k + 3) b at' v p n = if (if n = 8 then decide (c > 63) else false) = true then some (0, 0, false) else if c < 128 then (if (n : Int) = 0 then some (v + c % 128 * p, ((at' + n + 1 : Nat) : Int), true) else some (v + c % 128 * p, ((at' + n + 1 : Nat) : Int), decide (c > 0))) else (if (n : Int) < 8 then spec_l03Get.l0 k b at' (v + c % 128 * p) (wrap64 (p * 128)) ((n + 1 : Nat) : Int) else spec_l03Get.l0 k b at' (v + c % 128 * p) p ((n + 1 : Nat) : Int)) := by
 have hadd : wrap64 ((at' : Int) + (n : Int)) = ((at' + n : Nat) : Int) := by rw [w64 (by omega) (by omega)]; omega
 have hlt : decide (wrap64 ((at' : Int) + (n : Int)) < (b.length : Int)) = true := by rw [hadd]; exact decide_eq_true (by omega)
 have hnx : wrap64 (((at' + n : Nat) : Int) + 1) = ((at' + n + 1 : Nat) : Int) := by rw [w64 (by omega) (by omega)]; omega
 have hn1 : wrap64 ((n : Int) + 1) = ((n + 1 : Nat) : Int) := by rw [w64 (by omega) (by omega)]; omega
 have hc7 : c % 128 ≤ 127 := by omega
 have hq : c % 128 * p ≤ 127 * p := Int.mul_le_mul_of_nonneg_right hc7 (by omega)
 have hq0 : 0 ≤ c % 128 * p := Int.mul_nonneg (by omega) (by omega)
 have hsp : wrap64 (v + wrap64 ((Int.tmod c 128) * p)) = v + c % 128 * p := by
  rw [Int.tmod_eq_emod_of_nonneg hc0, w64 (x := c % 128 * p) (by omega) (by omega), w64 (by omega) (by omega)]
 rw [spec_l03Get.l0, if_pos (by omega), hlt, spec_l03Get.j1, if_pos rfl, hadd, if_pos (by omega), if_pos (by omega), hc, w64 (x := c) (by omega) (by omega)]
 by_cases h8 : n = 8
 ·rw [if_pos (by omega), if_pos h8, spec_l03Get.j2, hadd, hsp, hnx, hn1]
 ·rw [if_neg (by omega), if_neg h8, spec_l03Get.j2, hadd, hsp, hnx, hn1]

theorem stepI (b : List Int) (at' n : Nat) (v c p : Int) (hl : b.length ≤ 1048576) (hin : at' + n < b.length) (hn : n ≤ 8) (hc : rd b ((at' + n : Nat) : Int) = c) (hc0 : 0 ≤ c) (hc1 : c ≤ 255)
  (hp0 : 0 < p) (hp1 : p ≤ 72057594037927936) (hp2 : Aside0 ((2 : Int) ^ (7 * n) = p)) (hsh : Aside0 (shl .i64 (c % 128) (7 * (n : Int)) = c % 128 * p)) (hv0 : 0 ≤ v) (hv1 : v < p) (k : Nat) :
  impl_GetInt.l0 (k + 2) b at' v n = if c < 128 then (if v + c % 128 * p > 4611686018427387903 then some (0, 0, 3) else if v + c % 128 * p < 0 then some (0, 0, 3) else if c = 0 then (if (n : Int) > 0 then some (0, 0, 3) else some (v + c % 128 * p, ((at' + n + 1 : Nat) : Int), 0)) else some (v + c % 128 * p, ((at' + n + 1 : Nat) : Int), 0)) else impl_GetInt.l0 k b at' (v + c % 128 * p) ((n + 1 : Nat) : Int) := by
 have hadd : wrap64 ((at' : Int) + (n : Int)) = ((at' + n : Nat) : Int) := by rw [w64 (by omega) (by omega)]; omega
 have hlt : decide (wrap64 ((at' : Int) + (n : Int)) < (b.length : Int)) = true := by rw [hadd]; exact decide_eq_true (by omega)
 have hnx : wrap64 (((at' + n : Nat) : Int) + 1) = ((at' + n + 1 : Nat) : Int) := by rw [w64 (by omega) (by omega)]; omega
 have hn1 : wrap64 ((n : Int) + 1) = ((n + 1 : Nat) : Int) := by rw [w64 (by omega) (by omega)]; omega
 have hc7 : c % 128 ≤ 127 := by omega
 have hq : c % 128 * p ≤ 127 * p := Int.mul_le_mul_of_nonneg_right hc7 (by omega)
 have hq0 : 0 ≤ c % 128 * p := Int.mul_nonneg (by omega) (by omega)
 have hshift : (0 : Int) ≤ wrap64 (7 * (n : Int)) := by rw [w64 (by omega) (by omega)]; omega
 have hor : Go.bits .or .i64 v (shl .i64 (wrap64 (Go.bits .and .u8 c 127)) (wrap64 (7 * (n : Int)))) = v + c % 128 * p := by
  have b1 : v < 2 ^ 63 := by omega
  have b2 : c % 128 * p < 2 ^ 63 := by omega
  have b3 : 7 * n ≤ 62 := by omega
  have b4 : wrap64 (7 * (n : Int)) = 7 * (n : Int) := w64 (by omega) (by omega)
  have b5 : wrap64 (c % 128) = c % 128 := w64 (by omega) (by omega)
  have b6 : Go.bits .and .u8 c 127 = c % 128 := and127 _ hc0 (by omega)
  have hm : c % 128 * p % 2 ^ (7 * n) = 0 := by rw [hp2.out]; exact Int.mul_emod_left _ _
  have hv2 : v < 2 ^ (7 * n) := by rw [hp2.out]; exact hv1
  rw [b6, b5, b4, hsh.out, or_comm64 _ _ hv0 b1 hq0 b2, or_join (7 * n) b3 _ _ hq0 hm b2 hv0 hv2, Int.add_comm]
 rw [impl_GetInt.l0, if_pos (by omega), hlt, impl_GetInt.j1, if_pos rfl, hadd, if_pos (by omega), if_pos (by omega), if_pos hshift, hc, hor, hnx, hn1]

/-- What is known of a number that is read from a place. -/
def GotAt (b : List Int) (at' n : Nat) (r : Int × Int × Bool) : Prop :=
 r.2.2 = true → 0 ≤ r.1 ∧ r.1 ≤ 4611686018427387903 ∧ ∃ m : Nat, n ≤ m ∧ m ≤ 8 ∧ at' + m < b.length ∧ r.2.1 = ((at' + m + 1 : Nat) : Int) ∧ b.getD (at' + m) 0 < 128 ∧ ∀ j, n ≤ j → j < m → ¬ b.getD (at' + j) 0 < 128

theorem both (b : List Int) (at' : Nat) (hl : b.length ≤ 1048576) (hat : at' ≤ b.length) (hb : ∀ x ∈ b, 0 ≤ x ∧ x ≤ 255) (d : Nat) : ∀ (n : Nat) (v : Int), n + d = 9 → 0 ≤ v → v < 128 ^ n →
  ∃ r : Int × Int × Bool, GotAt b at' n r ∧ ∀ k, 3 * d + 3 ≤ k → spec_l03Get.l0 k b at' v (128 ^ (min n 8)) n = some r ∧ impl_GetInt.l0 k b at' v n = some (tell r) := by
 induction d with
 | zero =>
  intro n v hn h0 h1
  refine ⟨(0, 0, false), (fun h => by cases h), fun k hk => ?_⟩
  obtain ⟨k, rfl⟩ : ∃ m, k = m + 2 := ⟨k - 2, by omega⟩
  constructor
  ·rw [spec_l03Get.l0, if_neg (by omega), spec_l03Get.j1, if_neg (by decide)]
  ·rw [impl_GetInt.l0, if_neg (by omega), impl_GetInt.j1, if_neg (by decide)]; rfl
 | succ d ih =>
  intro n v hn h0 h1
  have en : min n 8 = n := by omega
  rw [en]
  by_cases hin : at' + n < b.length
  ·have hr := hb _ (rd_mem b (at' + n) hin)
   obtain ⟨hp0, hp1, hp2⟩ := pw n (by omega)
   obtain ⟨c, hc⟩ : ∃ c, rd b ((at' + n : Nat) : Int) = c := ⟨_, rfl⟩
   have hcD : b.getD (at' + n) 0 = c := by rw [← hc, rd_nat]
   rw [hc] at hr
   have hSt := stepS b at' n v c (128 ^ n) hl hin (by omega) hc hr.1 hr.2 hp0 hp1 h0 h1
   have hIt := stepI b at' n v c (128 ^ n) hl hin (by omega) hc hr.1 hr.2 hp0 hp1 ⟨hp2⟩ ⟨shl_at (c % 128) n (by omega) (by omega) (by omega)⟩ h0 h1
   have hc7 : c % 128 ≤ 127 := by omega
   have hq : c % 128 * 128 ^ n ≤ 127 * 128 ^ n := Int.mul_le_mul_of_nonneg_right hc7 (by omega)
   have hq0 : 0 ≤ c % 128 * 128 ^ n := Int.mul_nonneg (by omega) (by omega)
   have hnp : ((128 : Int) ^ n) * 128 = 128 ^ (n + 1) := (Int.pow_succ _ _).symm
   by_cases h8 : n = 8
   ·have e8 : (128 : Int) ^ n = 72057594037927936 := by rw [h8]; rfl
    rw [e8] at hSt hIt h1 hq hq0 ⊢
    by_cases h63 : c > 63
    ·refine ⟨(0, 0, false), (fun h => by cases h), fun k hk => ?_⟩
     obtain ⟨k, rfl⟩ : ∃ m, k = m + 4 := ⟨k - 4, by omega⟩
     constructor
     ·rw [hSt (k + 1), if_pos h8, if_pos (decide_eq_true h63)]
     ·rw [hIt (k + 2)]
      by_cases hc1 : c < 128
      ·rw [if_pos hc1, if_pos (by omega)]; rfl
      ·rw [if_neg hc1, impl_GetInt.l0, if_neg (by omega), impl_GetInt.j1, if_neg (by decide)]; rfl
    ·have hd : ¬ (decide (c > 63) = true) := by simpa using h63
     refine ⟨(v + c % 128 * 72057594037927936, ((at' + n + 1 : Nat) : Int), decide (c > 0)), ?_, fun k hk => ?_⟩
     ·intro _
      exact ⟨by simp only; omega, by simp only; omega, n, Nat.le_refl _, by omega, hin, rfl, by rw [hcD]; omega, fun j hj hj' => by omega⟩
     obtain ⟨k, rfl⟩ : ∃ m, k = m + 4 := ⟨k - 4, by omega⟩
     constructor
     ·rw [hSt (k + 1), if_pos h8, if_neg hd, if_pos (by omega), if_neg (by omega)]
     ·rw [hIt (k + 2), if_pos (by omega), if_neg (by omega), if_neg (by omega)]
      by_cases hc0 : c = 0
      ·subst hc0; rw [if_pos rfl, if_pos (by omega)]; rfl
      ·have hp : decide (c > 0) = true := decide_eq_true (by omega)
       rw [if_neg hc0]; simp [tell, hp]
   ·obtain ⟨hq3, hq4, _⟩ := pw (n + 1) (by omega)
    generalize hpp : (128 : Int) ^ n = p at *
    by_cases hc1 : c < 128
    ·refine ⟨(v + c % 128 * p, ((at' + n + 1 : Nat) : Int), decide (n = 0 ∨ c > 0)), ?_, fun k hk => ?_⟩
     ·intro _
      exact ⟨by simp only; omega, by simp only; omega, n, Nat.le_refl _, by omega, hin, rfl, by rw [hcD]; omega, fun j hj hj' => by omega⟩
     obtain ⟨k, rfl⟩ : ∃ m, k = m + 4 := ⟨k - 4, by omega⟩
     constructor
     ·rw [hSt (k + 1), if_neg h8, if_neg (by decide), if_pos hc1]
      by_cases hz : n = 0
      ·rw [if_pos (by omega)]; simp [hz]
      ·rw [if_neg (by omega)]; simp [hz]
     ·rw [hIt (k + 2), if_pos hc1, if_neg (by omega), if_neg (by omega)]
      by_cases hc0 : c = 0
      ·rw [if_pos hc0]
       by_cases hz : n = 0
       ·rw [if_neg (by omega)]; simp [tell, hz]
       ·rw [if_pos (by omega)]; simp [tell, hz, hc0]
      ·have : c > 0 := by omega
       rw [if_neg hc0]; simp [tell, this]
    ·obtain ⟨r, hG, hr'⟩ := ih (n + 1) (v + c % 128 * p) (by omega) (by omega) (by rw [← hnp]; omega)
     refine ⟨r, ?_, fun k hk => ?_⟩
     ·intro h
      obtain ⟨g1, g2, m, g3, g4, g5, g6, g7, g8⟩ := hG h
      refine ⟨g1, g2, m, by omega, g4, g5, g6, g7, fun j hj hj' => ?_⟩
      by_cases e : j = n
      ·rw [e, hcD]; exact hc1
      ·exact g8 j (by omega) hj'
     obtain ⟨k, rfl⟩ : ∃ m, k = m + 3 := ⟨k - 3, by omega⟩
     constructor
     ·rw [hSt k, if_neg h8, if_neg (by decide), if_neg hc1, if_pos (by omega), w64 (x := p * 128) (by omega) (by omega), hnp]
      have e2 : min (n + 1) 8 = n + 1 := by omega
      have := (hr' k (by omega)).1
      rwa [e2] at this
     ·rw [hIt (k + 1), if_neg hc1]
      exact (hr' (k + 1) (by omega)).2
  ·have hlt : decide (wrap64 ((at' : Int) + (n : Int)) < (b.length : Int)) = false := by rw [w64 (by omega) (by omega)]; exact decide_eq_false (by omega)
   refine ⟨(0, 0, false), (fun h => by cases h), fun k hk => ?_⟩
   obtain ⟨k, rfl⟩ : ∃ m, k = m + 2 := ⟨k - 2, by omega⟩
   constructor
   ·rw [spec_l03Get.l0, if_pos (by omega), hlt, spec_l03Get.j1, if_neg (by decide)]
   ·rw [impl_GetInt.l0, if_pos (by omega), hlt, impl_GetInt.j1, if_neg (by decide)]; rfl

/-- A number read at a place: what the two make of it. -/
theorem get_at (b : List Int) (n : Nat) (hl : b.length ≤ 1048576) (hn : n ≤ b.length) (hb : ∀ x ∈ b, 0 ≤ x ∧ x ≤ 255) :
  ∃ r : Int × Int × Bool, GotAt b n 0 r ∧ Ev (fun k => spec_l03Get.f k b (n : Int)) r ∧ Ev (fun k => impl_GetInt.f k b (n : Int)) (tell r) := by
 obtain ⟨r, hG, hr⟩ := both b n hl hn hb 9 0 0 (by omega) (by omega) (by decide)
 refine ⟨r, hG, ⟨30, fun k hk => (hr k hk).1⟩, ⟨30, fun k hk => ?_⟩⟩
 show impl_GetInt.f k b (n : Int) = some (tell r)
 unfold impl_GetInt.f impl_within.f
 rw [if_neg (by omega), if_pos (by omega), decide_eq_true (by omega)]
 simp only [Option.bind_some, if_true]
 exact (hr k hk).2

theorem q2 (a b : Nat) : (2 : Int) ^ (a + b) = 2 ^ a * 2 ^ b := Int.pow_add _ _ _
theorem q2pos (a : Nat) : (0 : Int) < 2 ^ a := Int.pow_pos (by decide)
theorem q2le (a b : Nat) (h : a ≤ b) : (2 : Int) ^ a ≤ 2 ^ b := by
 have h := Int.ofNat_le.2 (Nat.pow_le_pow_right (n := 2) (by decide) h)
 rw [Int.natCast_pow, Int.natCast_pow] at h
 exact h

def okNum (v : Int) : Prop := 0 ≤ v ∧ v ≤ 4611686018427387903
def bitOf (v : Int) (k : Nat) : Int := v / 2 ^ k % 2
theorem bitOf_01 (v : Int) (k : Nat) : 0 ≤ bitOf v k ∧ bitOf v k ≤ 1 := by unfold bitOf; omega

theorem and1 (x : Int) (h0 : 0 ≤ x) (h1 : x ≤ 9223372036854775807) : Go.bits .and .i64 x 1 = x % 2 :=
 bits_mask .i64 63 (by decide) (fun n => wrapk_i64 63 (by decide) n) 1 (by decide) x h0 (by
  have : (2 : Int) ^ 63 = 9223372036854775808 := rfl
  rw [this]; omega)

theorem shr_nat (x : Int) (j : Nat) (hj : j ≤ 64) : shr .i64 x (j : Int) = x / 2 ^ j := by
 unfold shr
 have e : min ((j : Int)).toNat IntKind.i64.bits = j := by
  have : IntKind.i64.bits = 64 := rfl
  omega
 rw [e]

theorem u64_nat (j : Nat) (hj : j ≤ 1000000) : IntKind.u64.wrap (j : Int) = (j : Int) := by simp [IntKind.wrap, IntKind.bits, IntKind.signed]; omega

theorem div_range (v : Int) (k : Nat) (h0 : 0 ≤ v) : 0 ≤ v / 2 ^ k ∧ v / 2 ^ k ≤ v := ⟨Int.ediv_nonneg h0 (Int.le_of_lt (q2pos k)), Int.ediv_le_self _ h0⟩

theorem and_bit (v : Int) (k : Nat) (hv : okNum v) (hk : k ≤ 62) : Go.bits .and .i64 (shr .i64 v (k : Int)) 1 = bitOf v k := by
 rw [shr_nat v k (by omega)]
 obtain ⟨d0, d1⟩ := div_range v k hv.1
 have h2 := hv.2
 unfold bitOf
 generalize v / (2 : Int) ^ k = z at *
 exact and1 z d0 (by omega)

theorem bit_eq (v : Int) (k : Nat) (hv : okNum v) (hk : k ≤ 62) : spec_l03Bit.f v (k : Int) = some (bitOf v k) := by
 unfold spec_l03Bit.f
 rw [u64_nat k (by omega), if_pos (by omega), and_bit v k hv hk]

/-- The bytes with one bit more. -/
def addBit (ys : List Int) (n : Nat) (b : Int) : List Int := ys.set (n / 8) (ys.getD (n / 8) 0 + b * 2 ^ (n % 8))
def addNum : Nat → List Int → Nat → Int → Nat → List Int
 | 0, ys, _, _, _ => ys
 | d + 1, ys, n, v, k => addNum d (addBit ys n (bitOf v k)) (n + 1) v (k + 1)
def addList (w : Nat) : List Int → List Int → Nat → List Int
 | [], ys, _ => ys
 | v :: l, ys, n => addList w l (addNum w ys n v 0) (n + w)
def wid (l : List Int) : Nat := l.foldl (fun w v => max w (Lib.bitLen v.toNat)) 0
def zeros (n : Nat) : List Int := List.replicate n 0
def blk (b : List Int) : List Int := addList (wid b) b (zeros ((b.length * wid b + 7) / 8)) 0
def packTail : Nat → List Int → List Int
 | 0, _ => []
 | d + 1, l => if l.length = 0 then [] else (wid (l.take 128) : Int) :: (blk (l.take 128) ++ packTail d (l.drop 128))

/-- Of byte m no more than the bits ahead of bit n are set. -/
def Inv (ys : List Int) (n : Nat) : Prop := ∀ m, m < ys.length → 0 ≤ ys.getD m 0 ∧ ys.getD m 0 < 2 ^ min 8 (n - 8 * m)

theorem addBit_length (ys : List Int) (n : Nat) (b : Int) : (addBit ys n b).length = ys.length := by simp [addBit]
theorem addNum_length (d : Nat) : ∀ (ys : List Int) (n : Nat) (v : Int) (k : Nat), (addNum d ys n v k).length = ys.length := by
 induction d with
 | zero => intro ys n v k; rfl
 | succ d ih => intro ys n v k; rw [addNum, ih, addBit_length]
theorem addList_length (w : Nat) (l : List Int) : ∀ (ys : List Int) (n : Nat), (addList w l ys n).length = ys.length := by
 induction l with
 | nil => intro ys n; rfl
 | cons v l ih => intro ys n; rw [addList, ih, addNum_length]

theorem Inv_zeros (n : Nat) : Inv (zeros n) 0 := by
 intro m hm
 have : (zeros n).getD m 0 = 0 := by
  unfold zeros at hm ⊢
  rw [List.getD_eq_getElem?_getD, List.getElem?_eq_getElem hm]; simp
 rw [this]
 exact ⟨Int.le_refl _, q2pos _⟩

theorem Inv_bit (ys : List Int) (n : Nat) (b : Int) (h : Inv ys n) (hn : n / 8 < ys.length) (hb0 : 0 ≤ b) (hb1 : b ≤ 1) : Inv (addBit ys n b) (n + 1) := by
 intro m hm
 rw [addBit_length] at hm
 by_cases c : m = n / 8
 ·subst c
  obtain ⟨h0, h1⟩ := h _ hn
  have e1 : min 8 (n - 8 * (n / 8)) = n % 8 := by omega
  have e2 : min 8 (n + 1 - 8 * (n / 8)) = n % 8 + 1 := by omega
  rw [e1] at h1
  unfold addBit
  rw [Kit.getD_set_eq _ _ _ hn, e2, q2, Int.pow_one]
  have hp := q2pos (n % 8)
  have hb : 0 ≤ b * 2 ^ (n % 8) := Int.mul_nonneg hb0 (Int.le_of_lt hp)
  have hb' : b * 2 ^ (n % 8) ≤ 1 * 2 ^ (n % 8) := Int.mul_le_mul_of_nonneg_right hb1 (Int.le_of_lt hp)
  generalize ys.getD (n / 8) 0 = y at *
  generalize b * (2 : Int) ^ (n % 8) = z at *
  generalize (2 : Int) ^ (n % 8) = p at *
  omega
 ·obtain ⟨h0, h1⟩ := h m hm
  unfold addBit
  rw [Kit.getD_set_ne _ _ _ _ (Ne.symm c)]
  exact ⟨h0, Int.lt_of_lt_of_le h1 (q2le _ _ (by omega))⟩

theorem Inv_num (v : Int) (d : Nat) : ∀ (ys : List Int) (n k : Nat), Inv ys n → n + d ≤ 8 * ys.length → Inv (addNum d ys n v k) (n + d) := by
 induction d with
 | zero => intro ys n k h _; exact h
 | succ d ih =>
  intro ys n k h hl
  obtain ⟨b0, b1⟩ := bitOf_01 v k
  rw [addNum, show n + (d + 1) = n + 1 + d by omega]
  exact ih _ _ _ (Inv_bit ys n _ h (by omega) b0 b1) (by rw [addBit_length]; omega)

/-- The byte that is set has room for its bit. -/
theorem Inv_room (ys : List Int) (n : Nat) (b : Int) (h : Inv ys n) (hn : n / 8 < ys.length) (hb0 : 0 ≤ b) (hb1 : b ≤ 1) :
  0 ≤ ys.getD (n / 8) 0 ∧ ys.getD (n / 8) 0 < 2 ^ (n % 8) ∧ 0 ≤ b * 2 ^ (n % 8) ∧ b * 2 ^ (n % 8) ≤ 128 ∧ ys.getD (n / 8) 0 + b * 2 ^ (n % 8) < 256 := by
 obtain ⟨h0, h1⟩ := h _ hn
 have e1 : min 8 (n - 8 * (n / 8)) = n % 8 := by omega
 rw [e1] at h1
 have hp := q2pos (n % 8)
 have hp7 : (2 : Int) ^ (n % 8) ≤ 128 := q2le (n % 8) 7 (by omega)
 have hb : 0 ≤ b * 2 ^ (n % 8) := Int.mul_nonneg hb0 (Int.le_of_lt hp)
 have hb' : b * 2 ^ (n % 8) ≤ 1 * 2 ^ (n % 8) := Int.mul_le_mul_of_nonneg_right hb1 (Int.le_of_lt hp)
 generalize ys.getD (n / 8) 0 = y at *
 generalize b * (2 : Int) ^ (n % 8) = z at *
 generalize (2 : Int) ^ (n % 8) = p at *
 omega

theorem shl_bit (b : Int) (j : Nat) (hj : j ≤ 7) (hb0 : 0 ≤ b * 2 ^ j) (hb1 : b * 2 ^ j ≤ 128) : shl .i64 b (j : Int) = b * 2 ^ j ∧ shl .u8 b (j : Int) = b * 2 ^ j := by
 unfold shl
 have e : min ((j : Int)).toNat IntKind.i64.bits = j := by
  have : IntKind.i64.bits = 64 := rfl
  omega
 have e' : min ((j : Int)).toNat IntKind.u8.bits = j := by
  have : IntKind.u8.bits = 8 := rfl
  omega
 rw [e, e', IntKind.wrap_i64, IntKind.wrap_u8]
 generalize b * (2 : Int) ^ j = z at *
 omega

theorem or_bit (y b : Int) (j : Nat) (hj : j ≤ 7) (hy0 : 0 ≤ y) (hy : y < 2 ^ j) (hb0 : 0 ≤ b) (hb1 : b ≤ 1) : Go.bits .or .u8 y (b * 2 ^ j) = y + b * 2 ^ j := by
 have hp := q2pos j
 have hp7 : (2 : Int) ^ j ≤ 128 := q2le j 7 hj
 have hz0 : 0 ≤ b * 2 ^ j := Int.mul_nonneg hb0 (Int.le_of_lt hp)
 have hz1 : b * 2 ^ j ≤ 1 * 2 ^ j := Int.mul_le_mul_of_nonneg_right hb1 (Int.le_of_lt hp)
 have hm : b * 2 ^ j % 2 ^ j = 0 := Int.mul_emod_left _ _
 have h8 : (2 : Int) ^ 8 = 256 := rfl
 have hz2 : b * 2 ^ j < 2 ^ 8 := by rw [h8]; generalize b * (2 : Int) ^ j = z at *; generalize (2 : Int) ^ j = p at *; omega
 have hy2 : y < 2 ^ 8 := by rw [h8]; generalize (2 : Int) ^ j = p at *; omega
 have hc : Go.bits .or .u8 y (b * 2 ^ j) = Go.bits .or .u8 (b * 2 ^ j) y := by
  obtain ⟨a, ha⟩ : ∃ a : Nat, y = (a : Int) := ⟨y.toNat, by omega⟩
  obtain ⟨c, hc⟩ : ∃ c : Nat, b * 2 ^ j = (c : Int) := ⟨(b * 2 ^ j).toNat, by omega⟩
  rw [hc, ha]
  rw [hc] at hz2; rw [ha] at hy2
  rw [h8] at hz2 hy2
  rw [(bits_nat .u8 8 (by decide) wraps_u8 a c (by omega) (by omega)).2, (bits_nat .u8 8 (by decide) wraps_u8 c a (by omega) (by omega)).2, Nat.or_comm]
 rw [hc, bits_join .u8 8 (by decide) wraps_u8 j _ _ hz0 hm hz2 hy0 hy hy2, Int.add_comm]

theorem put_spec_byte (ys : List Int) (n : Nat) (b : Int) (h : Inv ys n) (hn : n / 8 < ys.length) (hb0 : 0 ≤ b) (hb1 : b ≤ 1) :
  (ys.getD (n / 8) 0 + (shl .i64 b ((n % 8 : Nat) : Int)) % 256) % 256 = ys.getD (n / 8) 0 + b * 2 ^ (n % 8) := by
 obtain ⟨q0, q1, q2', q3, q4⟩ := Inv_room ys n b h hn hb0 hb1
 have hj : n % 8 ≤ 7 := by omega
 rw [(shl_bit b (n % 8) hj q2' q3).1]
 clear q1
 generalize b * (2 : Int) ^ (n % 8) = z at *
 generalize ys.getD (n / 8) 0 = y at *
 omega

theorem put_impl_byte (ys : List Int) (n : Nat) (b : Int) (h : Inv ys n) (hn : n / 8 < ys.length) (hb0 : 0 ≤ b) (hb1 : b ≤ 1) :
  Go.bits .or .u8 (ys.getD (n / 8) 0) (shl .u8 (b % 256) ((n % 8 : Nat) : Int)) = ys.getD (n / 8) 0 + b * 2 ^ (n % 8) := by
 have hj : n % 8 ≤ 7 := by omega
 have hb : b % 256 = b := by omega
 obtain ⟨q0, q1, q2', q3, q4⟩ := Inv_room ys n b h hn hb0 hb1
 rw [hb, (shl_bit b (n % 8) hj q2' q3).2]
 exact or_bit _ _ _ hj q0 q1 hb0 hb1

theorem n0 : ((0 : Nat) : Int) = 0 := rfl

theorem size_eq (n w : Nat) (hn : n ≤ 128) (hw : w ≤ 62) : wrap64 (Int.tdiv (wrap64 (wrap64 ((n : Int) * (w : Int)) + 7)) 8) = (((n * w + 7) / 8 : Nat) : Int) ∧ (n * w + 7) / 8 ≤ 992 ∧ n * w ≤ 8 * ((n * w + 7) / 8) := by
 have hmul : n * w ≤ 128 * 62 := Nat.mul_le_mul hn hw
 have e : ((n : Int) * (w : Int)) = ((n * w : Nat) : Int) := by rw [Int.natCast_mul]
 rw [e]
 generalize n * w = z at *
 refine ⟨?_, by omega, by omega⟩
 rw [w64 (x := (z : Int)) (by omega) (by omega), w64 (x := (z : Int) + 7) (by omega) (by omega), Int.tdiv_eq_ediv_of_nonneg (by omega), w64 (by omega) (by omega)]; omega

theorem bitLen_gt (v : Int) (hv : okNum v) (w : Nat) (hw : w ≤ 62) : (v / 2 ^ w > 0) ↔ w < Lib.bitLen v.toNat := by
 by_cases hz : v = 0
 ·subst hz
  have : Lib.bitLen (0 : Int).toNat = 0 := by decide
  rw [this]; simp
 ·have h1 := hv.1
  have h2 := hv.2
  have hv64 : v.toNat < 2 ^ 64 := by
   have : v.toNat < 18446744073709551616 := by omega
   exact this
  obtain ⟨b1, b2, b3⟩ := Lib.bitLenAux_bounds 64 v.toNat hv64 (by omega)
  have b1' : 1 ≤ Lib.bitLen v.toNat := b1
  have b2' : 2 ^ (Lib.bitLen v.toNat - 1) ≤ v.toNat := b2
  have b3' : v.toNat < 2 ^ Lib.bitLen v.toNat := b3
  have c2 : (2 : Int) ^ (Lib.bitLen v.toNat - 1) ≤ v := by
   have := Int.ofNat_le.2 b2'
   rw [Int.natCast_pow, Int.toNat_of_nonneg h1] at this; exact this
  have c3 : v < 2 ^ Lib.bitLen v.toNat := by
   have := Int.ofNat_lt.2 b3'
   rw [Int.natCast_pow, Int.toNat_of_nonneg h1] at this; exact this
  constructor
  ·intro h
   rcases Nat.lt_or_ge w (Lib.bitLen v.toNat) with h' | h'
   ·exact h'
   ·have : v < 2 ^ w := Int.lt_of_lt_of_le c3 (q2le _ _ h')
    have := Int.ediv_eq_zero_of_lt h1 this
    omega
  ·intro h
   have : (2 : Int) ^ w ≤ v := Int.le_trans (q2le _ _ (by omega)) c2
   have := (Int.le_ediv_iff_mul_le (q2pos w)).2 (show 1 * (2 : Int) ^ w ≤ v by rw [Int.one_mul]; exact this)
   omega

theorem bitLen_62 (v : Int) (hv : okNum v) : Lib.bitLen v.toNat ≤ 62 := Lib.bitLen_le v.toNat 62 (by decide) (by
 have h1 := hv.1
 have h2 := hv.2
 have : v.toNat < 4611686018427387904 := by omega
 exact this)

theorem width_l1 (x0 : List Int) (i : Nat) (hi : i + 1 ≤ 1000000) (v : Int) (hv : okNum v) (r : Int) (d : Nat) : ∀ (w : Nat), w ≤ 62 → w + d = max w (Lib.bitLen v.toNat) →
  Ev (fun k => spec_l03Width.l0 k x0 ((max w (Lib.bitLen v.toNat) : Nat) : Int) ((i + 1 : Nat) : Int)) r → Ev (fun k => spec_l03Width.l1 k x0 (w : Int) (i : Int) v) r := by
 have hb := bitLen_62 v hv
 have e1 : Aside0 (wrap64 ((i : Int) + 1) = ((i + 1 : Nat) : Int)) := ⟨by rw [w64 (by omega) (by omega)]; omega⟩
 induction d with
 | zero =>
  intro w hw hd h
  have hle : Lib.bitLen v.toNat ≤ w := by omega
  rw [Nat.max_eq_left hle] at h
  refine Ev.step (fun k => ?_) h
  have hn : ¬ (v / 2 ^ w > 0) := by rw [bitLen_gt v hv w hw]; omega
  rw [spec_l03Width.l1, u64_nat w (by omega), if_pos (by omega), shr_nat v w (by omega), if_neg hn, e1.out]
 | succ d ih =>
  intro w hw hd h
  have hlt : w < Lib.bitLen v.toNat := by omega
  have hp := (bitLen_gt v hv w hw).2 hlt
  have e2 : Aside0 (wrap64 ((w : Int) + 1) = ((w + 1 : Nat) : Int)) := ⟨by rw [w64 (by omega) (by omega)]; omega⟩
  refine Ev.step (fun k => ?_) (ih (w + 1) (by omega) (by omega) (by rw [show max (w + 1) (Lib.bitLen v.toNat) = max w (Lib.bitLen v.toNat) by omega]; exact h))
  rw [spec_l03Width.l1, u64_nat w (by omega), if_pos (by omega), shr_nat v w (by omega), if_pos hp, e2.out]

theorem width_l0 (x0 : List Int) (hx : x0.length ≤ 4096) (hn : ∀ v ∈ x0, okNum v) (d : Nat) : ∀ (i w : Nat), i + d = x0.length → w ≤ 62 →
  Ev (fun k => spec_l03Width.l0 k x0 (w : Int) (i : Int)) (((x0.drop i).foldl (fun w v => max w (Lib.bitLen v.toNat)) w : Nat) : Int) := by
 induction d with
 | zero =>
  intro i w hi hw
  rw [List.drop_of_length_le (by omega)]
  refine Ev.step (fun k => ?_) (Ev.now _)
  rw [spec_l03Width.l0, if_neg (by omega), List.foldl_nil]
 | succ d ih =>
  intro i w hi hw
  have hv := hn _ (rd_mem x0 i (by omega))
  have hb := bitLen_62 _ hv
  have ed : x0.drop i = rd x0 (i : Int) :: x0.drop (i + 1) := by rw [rd_lt x0 i (by omega)]; exact List.drop_eq_getElem_cons (by omega)
  rw [ed, List.foldl_cons]
  refine Ev.step (fun k => ?_) (width_l1 x0 i (by omega) _ hv _ (max w (Lib.bitLen (rd x0 (i : Int)).toNat) - w) w hw (by omega) (ih (i + 1) _ (by omega) (by omega)))
  rw [spec_l03Width.l0, if_pos (by omega), if_pos (by omega)]

theorem width_eq (x0 : List Int) (hx : x0.length ≤ 4096) (hn : ∀ v ∈ x0, okNum v) : Ev (fun k => spec_l03Width.f k x0) (wid x0 : Int) := by
 have := width_l0 x0 hx hn x0.length 0 0 (by omega) (by omega)
 rw [List.drop_zero] at this
 exact this

theorem foldl_62 (l : List Int) (hn : ∀ v ∈ l, okNum v) : ∀ w : Nat, w ≤ 62 → l.foldl (fun w v => max w (Lib.bitLen v.toNat)) w ≤ 62 := by
 induction l with
 | nil => intro w hw; exact hw
 | cons a l ih =>
  intro w hw
  have := bitLen_62 a (hn a (List.mem_cons_self))
  rw [List.foldl_cons]
  exact ih (fun v hv => hn v (List.mem_cons_of_mem _ hv)) (max w (Lib.bitLen a.toNat)) (by omega)
theorem wid_62 (l : List Int) (hn : ∀ v ∈ l, okNum v) : wid l ≤ 62 := foldl_62 l hn 0 (by omega)

theorem at_eq (i w kk n : Nat) (hi : i ≤ 128) (hw : w ≤ 62) (hk : kk ≤ 62) (hn : n = i * w + kk) : wrap64 (wrap64 ((i : Int) * (w : Int)) + (kk : Int)) = (n : Int) := by
 have hmul : i * w ≤ 128 * 62 := Nat.mul_le_mul hi hw
 have e : ((i : Int) * (w : Int)) = ((i * w : Nat) : Int) := by rw [Int.natCast_mul]
 rw [e]
 generalize i * w = z at *
 rw [w64 (x := (z : Int)) (by omega) (by omega), w64 (by omega) (by omega)]; omega

theorem div_eq (n : Nat) (hn : n ≤ 100000) : wrap64 (Int.tdiv (n : Int) 8) = ((n / 8 : Nat) : Int) ∧ Int.tmod (n : Int) 8 = ((n % 8 : Nat) : Int) := by
 rw [Int.tdiv_eq_ediv_of_nonneg (by omega), Int.tmod_eq_emod_of_nonneg (by omega), w64 (by omega) (by omega)]; omega

theorem spec_l2 (x0 x3 x5 : List Int) (x4 : Int) (w i : Nat) (hw : w ≤ 62) (hi : i < x5.length) (hx : x5.length ≤ 128) (hv : okNum (rd x5 (i : Int))) (r : List Int) (d : Nat) :
  ∀ (kk n : Nat) (ys : List Int), kk + d = w → Aside0 (n = i * w + kk) → n + d ≤ 8 * ys.length → ys.length ≤ 1000 → Inv ys n →
  Ev (fun k => spec_l03Pack.l1 k x0 x3 x4 x5 (w : Int) (addNum d ys n (rd x5 (i : Int)) kk) ((i + 1 : Nat) : Int)) r →
  Ev (fun k => spec_l03Pack.l2 k x0 x3 x4 x5 (w : Int) ys (i : Int) (kk : Int)) r := by
 have e1 : Aside0 (wrap64 ((i : Int) + 1) = ((i + 1 : Nat) : Int)) := ⟨by rw [w64 (by omega) (by omega)]; omega⟩
 induction d with
 | zero =>
  intro kk n ys hd hnn hs hl hinv h
  refine Ev.step (fun k => ?_) h
  rw [spec_l03Pack.l2, if_neg (by omega), e1.out, addNum]
 | succ d ih =>
  intro kk n ys hd hnn hs hl hinv h
  have hn8 : n / 8 < ys.length := by omega
  have hkw : (kk : Int) < (w : Int) := by omega
  have hil : (i : Int) < (x5.length : Int) := by omega
  have hk62 : kk ≤ 62 := by omega
  have ek : Aside0 (wrap64 ((kk : Int) + 1) = ((kk + 1 : Nat) : Int)) := ⟨by rw [w64 (by omega) (by omega)]; omega⟩
  have em := Aside0.mk (at_eq i w kk n (by omega) hw hk62 hnn.out)
  have hdv := Aside0.mk (div_eq n (by omega))
  have hnn' : Aside0 (n + 1 = i * w + (kk + 1)) := ⟨by rw [hnn.out, Nat.add_assoc]⟩
  obtain ⟨b0, b1⟩ := bitOf_01 (rd x5 (i : Int)) kk
  rw [addNum] at h
  have h' := ih (kk + 1) (n + 1) (addBit ys n (bitOf (rd x5 (i : Int)) kk)) (by omega) hnn' (by rw [addBit_length]; omega) (by rw [addBit_length]; exact hl) (Inv_bit ys _ _ hinv hn8 b0 b1) h
  have hput := Aside0.mk (put_spec_byte ys n _ hinv hn8 b0 b1)
  refine Ev.step (fun k => ?_) h'
  rw [spec_l03Pack.l2, if_pos hkw, em.out, hdv.out.1, hdv.out.2, if_pos (Int.natCast_nonneg _), if_pos (Int.ofNat_lt.2 hn8), if_pos (Int.natCast_nonneg _), if_pos hil, bit_eq _ kk hv hk62]
  simp only [Option.bind_some]
  rw [u64_nat (n % 8) (Nat.le_trans (Nat.le_of_lt (Nat.mod_lt _ (by decide))) (by decide)), if_pos (Int.natCast_nonneg _), rd_nat, ek.out, Int.toNat_natCast, hput.out, addBit]

theorem spec_l1 (x0 x3 x5 : List Int) (x4 : Nat) (w : Nat) (hw : w ≤ 62) (hx : x5.length ≤ 128) (hx4 : x4 ≤ 5000) (h3 : x3.length < 1000000) (hn : ∀ v ∈ x5, okNum v) (r : List Int) (d : Nat) :
  ∀ (i : Nat) (ys : List Int), i + d = x5.length → x5.length * w ≤ 8 * ys.length → ys.length ≤ 1000 → Inv ys (i * w) →
  Ev (fun k => spec_l03Pack.l0 k x0 (x3 ++ addList w (x5.drop i) ys (i * w)) ((x4 + 128 : Nat) : Int)) r →
  Ev (fun k => spec_l03Pack.l1 k x0 x3 (x4 : Int) x5 (w : Int) ys (i : Int)) r := by
 have e1 : Aside0 (wrap64 ((x4 : Int) + 128) = ((x4 + 128 : Nat) : Int)) := ⟨by rw [w64 (by omega) (by omega)]; omega⟩
 induction d with
 | zero =>
  intro i ys hd hs hl hinv h
  rw [List.drop_of_length_le (by omega)] at h
  refine Ev.step (fun k => ?_) h
  rw [spec_l03Pack.l1, if_neg (by omega), if_pos (by omega), e1.out, addList]
 | succ d ih =>
  intro i ys hd hs hl hinv h
  have ed : x5.drop i = rd x5 (i : Int) :: x5.drop (i + 1) := by rw [rd_lt x5 i (by omega)]; exact List.drop_eq_getElem_cons (by omega)
  have hiw : i * w + w ≤ x5.length * w := by
   have : (i + 1) * w ≤ x5.length * w := Nat.mul_le_mul_right w (by omega)
   rwa [Nat.add_mul, Nat.one_mul] at this
  have e2 : (i + 1) * w = i * w + w := by rw [Nat.add_mul, Nat.one_mul]
  have hI : Inv (addNum w ys (i * w) (rd x5 (i : Int)) 0) ((i + 1) * w) := by rw [e2]; exact Inv_num _ w ys _ 0 hinv (by omega)
  have h' := ih (i + 1) (addNum w ys (i * w) (rd x5 (i : Int)) 0) (by omega) (by rw [addNum_length]; exact hs) (by rw [addNum_length]; exact hl) hI (by rw [ed, addList] at h; rw [e2]; exact h)
  refine Ev.step (fun k => ?_) (by have h2 := spec_l2 x0 x3 x5 (x4 : Int) w i hw (by omega) hx (hn _ (rd_mem x5 i (by omega))) r w 0 (i * w) ys (by omega) ⟨rfl⟩ (by omega) hl hinv h'; rw [n0] at h2; exact h2)
  rw [spec_l03Pack.l1, if_pos (by omega)]

theorem mn_nat (a b : Nat) : mn (a : Int) (b : Int) = ((min a b : Nat) : Int) := by unfold mn; split <;> omega

theorem cut_eq (x0 : List Int) (at' : Nat) (h : at' ≤ x0.length) : (x0.take (min (at' + 128) x0.length)).drop at' = (x0.drop at').take 128 := by
 rw [List.drop_take]
 have : min (at' + 128) x0.length - at' = min 128 (x0.length - at') := by omega
 rw [this]
 by_cases c : 128 ≤ x0.length - at'
 ·rw [Nat.min_eq_left c]
 ·rw [Nat.min_eq_right (by omega), List.take_of_length_le (by simp), List.take_of_length_le (by simp; omega)]

theorem blk_length (b : List Int) : (blk b).length = (b.length * wid b + 7) / 8 := by unfold blk; rw [addList_length]; simp [zeros]

theorem spec_l0 (x0 : List Int) (hx : x0.length ≤ 4096) (hn : ∀ v ∈ x0, okNum v) (d : Nat) : ∀ (at' : Nat) (x3 : List Int), x0.length < at' + 128 * d → at' < x0.length + 128 → x3.length + 1000 * d < 900000 →
  Ev (fun k => spec_l03Pack.l0 k x0 x3 (at' : Int)) (x3 ++ packTail d (x0.drop at')) := by
 induction d with
 | zero =>
  intro at' x3 h1 h2 h3
  refine Ev.step (fun k => ?_) (Ev.now _)
  rw [spec_l03Pack.l0, if_neg (by omega)]; simp [packTail]
 | succ d ih =>
  intro at' x3 h1 h2 h3
  by_cases hlt : at' < x0.length
  ·have hb : ∀ v ∈ (x0.drop at').take 128, okNum v := fun v hv => hn v (List.mem_of_mem_drop (List.mem_of_mem_take hv))
   have hlen : ((x0.drop at').take 128).length ≤ 128 := by simp; omega
   have hw := wid_62 _ hb
   have e1 : Aside0 (wrap64 ((at' : Int) + 128) = ((at' + 128 : Nat) : Int)) := ⟨by rw [w64 (by omega) (by omega)]; omega⟩
   have hne : ¬ ((x0.drop at').length = 0) := by simp; omega
   obtain ⟨em0, hs1, hs2⟩ := size_eq _ _ hlen hw
   have em := Aside0.mk em0
   clear em0
   have hbl := blk_length ((x0.drop at').take 128)
   have hcut := cut_eq x0 at' (by omega)
   have hwid := width_eq ((x0.drop at').take 128) (by omega) hb
   rw [packTail, if_neg hne, List.drop_drop]
   generalize hB : (x0.drop at').take 128 = B at *
   have hblk : blk B = addList (wid B) B (zeros ((B.length * wid B + 7) / 8)) 0 := rfl
   rw [hblk] at hbl ⊢
   generalize hW : wid B = W at *
   have hz : (zeros ((B.length * W + 7) / 8)).length = (B.length * W + 7) / 8 := by simp [zeros]
   have hrest := ih (at' + 128) (x3 ++ [(W : Int)] ++ addList W B (zeros ((B.length * W + 7) / 8)) 0) (by omega) (by omega) (by simp only [List.length_append, List.length_singleton]; omega)
   have eassoc : x3 ++ ((W : Int) :: (addList W B (zeros ((B.length * W + 7) / 8)) 0 ++ packTail d (x0.drop (at' + 128)))) = x3 ++ [(W : Int)] ++ addList W B (zeros ((B.length * W + 7) / 8)) 0 ++ packTail d (x0.drop (at' + 128)) := by simp
   rw [eassoc]
   have hl1 := spec_l1 x0 (x3 ++ [(W : Int)]) B at' W hw hlen (by omega) (by simp; omega) hb
    (x3 ++ [(W : Int)] ++ addList W B (zeros ((B.length * W + 7) / 8)) 0 ++ packTail d (x0.drop (at' + 128))) B.length 0
    (zeros ((B.length * W + 7) / 8)) (by omega) (by rw [hz]; exact hs2) (by rw [hz]; omega) (by rw [Nat.zero_mul]; exact Inv_zeros _) (by rw [Nat.zero_mul, List.drop_zero]; exact hrest)
   rw [n0] at hl1
   have ew : Aside0 ((W : Int) % 256 = (W : Int)) := ⟨Int.emod_eq_of_lt (by omega) (by omega)⟩
   have c1 : (at' : Int) < (x0.length : Int) := by omega
   have c2 : (at' : Int) ≤ ((min (at' + 128) x0.length : Nat) : Int) := by omega
   have c3 : ((min (at' + 128) x0.length : Nat) : Int) ≤ (x0.length : Int) := by omega
   have c4 : x3.length < 140737488355328 := by omega
   have c5 : (B.length * W + 7) / 8 ≤ 281474976710656 := by omega
   clear ih hrest hb hs1 hs2 hbl hz
   refine Ev.step (f := fun k => (spec_l03Width.f k B).bind fun t => if x3.length < 140737488355328 then (if 0 ≤ (wrap64 (Int.tdiv (wrap64 ((wrap64 ((B.length : Int) * t)) + 7)) 8)) then (if (wrap64 (Int.tdiv (wrap64 ((wrap64 ((B.length : Int) * t)) + 7)) 8) : Int).toNat ≤ 281474976710656 then (spec_l03Pack.l1 k x0 (x3 ++ [(t) % 256]) (at' : Int) B t (List.replicate (wrap64 (Int.tdiv (wrap64 ((wrap64 ((B.length : Int) * t)) + 7)) 8) : Int).toNat 0) 0) else none) else none) else none) (fun k => ?_) ?_
   ·rw [spec_l03Pack.l0, if_pos c1, if_pos (Int.natCast_nonneg _), e1.out, mn_nat, if_pos c2, if_pos c3, Int.toNat_natCast, Int.toNat_natCast, hcut]
   ·refine Ev.bind hwid ?_
    refine Ev.congr (fun k => ?_) hl1
    rw [em.out, ew.out, if_pos c4, if_pos (Int.natCast_nonneg _), Int.toNat_natCast, if_pos c5, zeros]
  ·refine Ev.step (fun k => ?_) (Ev.now _)
   rw [spec_l03Pack.l0, if_neg (by omega), packTail, if_pos (by simp; omega)]; simp

/-- A packed list. -/
def packed (l : List Int) : List Int := vb 8 (l.length : Int) ++ packTail 33 l

theorem spec_Pack_eq (l : List Int) (hx : l.length ≤ 4096) (hn : ∀ v ∈ l, okNum v) : Ev (fun k => spec_l03Pack.f k l) (packed l) := by
 have hp : Ev (fun k => spec_l03Put.f k (l.length : Int)) (vb 8 (l.length : Int)) :=
  ⟨9, fun k hk => put_spec spec_l03Put.f (fun _ _ => rfl) 8 (by omega) k _ (by omega) (by rw [pow128_8]; omega) (by omega)⟩
 have hl := (vb_length 8 (l.length : Int)).2
 have h0 := spec_l0 l hx hn 33 0 (vb 8 (l.length : Int)) (by omega) (by omega) (by omega)
 rw [List.drop_zero, n0] at h0
 exact Ev.bind hp h0

def okB (v : Int) : Bool := decide (0 ≤ v ∧ v ≤ 4611686018427387903)
theorem okB_iff (v : Int) : okB v = true ↔ okNum v := by simp [okB, okNum]
theorem num_eq (v : Int) : spec_l03Num.f v = some (okB v) := by
 unfold spec_l03Num.f okB
 split <;> (congr 1; simp; omega)
theorem within_num (v : Int) : impl_within.f v 0 4611686018427387903 = some (okB v) := by
 unfold impl_within.f okB
 split <;> (congr 1; simp; omega)

theorem allNums_from (x0 : List Int) (hx : x0.length ≤ 1000000) (d : Nat) : ∀ i : Nat, i + d = x0.length → Ev (fun k => spec_l03AllNums.l0 k x0 (i : Int)) ((x0.drop i).all okB) := by
 induction d with
 | zero =>
  intro i hi
  rw [List.drop_of_length_le (by omega)]
  refine Ev.step (fun k => ?_) (Ev.now _)
  rw [spec_l03AllNums.l0, if_neg (by omega)]; rfl
 | succ d ih =>
  intro i hi
  have e1 : Aside0 (wrap64 ((i : Int) + 1) = ((i + 1 : Nat) : Int)) := ⟨by rw [w64 (by omega) (by omega)]; omega⟩
  have ed : x0.drop i = rd x0 (i : Int) :: x0.drop (i + 1) := by rw [rd_lt x0 i (by omega)]; exact List.drop_eq_getElem_cons (by omega)
  rw [ed, List.all_cons]
  by_cases c : okB (rd x0 (i : Int)) = true
  ·rw [c, Bool.true_and]
   refine Ev.step (fun k => ?_) (ih (i + 1) (by omega))
   rw [spec_l03AllNums.l0, if_pos (by omega), if_pos (by omega), num_eq]
   simp only [Option.bind_some]
   rw [if_pos c, e1.out]
  ·have c' : okB (rd x0 (i : Int)) = false := by simpa using c
   rw [c', Bool.false_and]
   refine Ev.step (fun k => ?_) (Ev.now _)
   rw [spec_l03AllNums.l0, if_pos (by omega), if_pos (by omega), num_eq]
   simp only [Option.bind_some]
   rw [if_neg c]

theorem allNums_eq (x0 : List Int) (hx : x0.length ≤ 1000000) : Ev (fun k => spec_l03AllNums.f k x0) (x0.all okB) := by
 have := allNums_from x0 hx x0.length 0 (by omega)
 rw [List.drop_zero] at this
 exact this

theorem all_ok (l : List Int) (h : l.all okB = true) : ∀ v ∈ l, okNum v := fun v hv => (okB_iff v).1 (List.all_eq_true.1 h v hv)

/-- What both tell of a list. -/
def packTell (l : List Int) : List Int × Int := if (l.length : Int) > 4096 then ([], 2) else if l.all okB then (packed l, 0) else ([], 12)

theorem rd_app (pre ys : List Int) (j : Nat) : rd (pre ++ ys) ((pre.length + j : Nat) : Int) = ys.getD j 0 := by
 rw [rd_nat, List.getD_eq_getElem?_getD, List.getD_eq_getElem?_getD, List.getElem?_append_right (by omega)]
 congr 2; omega
theorem set_app (pre ys : List Int) (j : Nat) (a : Int) : (pre ++ ys).set (pre.length + j) a = pre ++ ys.set j a := by
 rw [List.set_append_right _ _ (by omega)]; congr 2; omega

theorem base_eq (p n : Nat) (hp : p ≤ 2000000) (hn : n ≤ 100000) : wrap64 ((p : Int) + wrap64 (Int.tdiv (n : Int) 8)) = ((p + n / 8 : Nat) : Int) := by
 rw [Int.tdiv_eq_ediv_of_nonneg (by omega), w64 (x := (n : Int) / 8) (by omega) (by omega), w64 (by omega) (by omega)]; omega

theorem impl_l4 (x0 pre B : List Int) (x7 : Int) (w : Nat) (hw : w ≤ 62) (x75 x76 v : Int) (hv : okNum v) (hpre : pre.length ≤ 1000000) (r : List Int × Int) (d : Nat) :
  ∀ (kk n : Nat) (ys : List Int), kk + d = w → n + d ≤ 8 * ys.length → ys.length ≤ 1000 → Inv ys n →
  Ev (fun k => impl_PackInts.l3 k x0 (pre ++ addNum d ys n v kk) x7 (w : Int) (pre.length : Int) ((n + d : Nat) : Int) B x75 (wrap64 (x76 + 1))) r →
  Ev (fun k => impl_PackInts.l4 k x0 (pre ++ ys) x7 (w : Int) (pre.length : Int) (n : Int) v B x75 x76 (w : Int) (kk : Int)) r := by
 induction d with
 | zero =>
  intro kk n ys hd hs hl hinv h
  rw [Nat.add_zero, addNum] at h
  refine Ev.step (fun k => ?_) h
  rw [impl_PackInts.l4, if_neg (by omega)]
 | succ d ih =>
  intro kk n ys hd hs hl hinv h
  have hn8 : n / 8 < ys.length := by omega
  have hkw : (kk : Int) < (w : Int) := by omega
  have hk62 : kk ≤ 62 := by omega
  have hlen : ((pre.length + n / 8 : Nat) : Int) < ((pre ++ ys).length : Int) := by simp only [List.length_append]; omega
  have ed := Aside0.mk (base_eq pre.length n (by omega) (by omega))
  have ek : Aside0 (wrap64 ((kk : Int) + 1) = ((kk + 1 : Nat) : Int)) := ⟨by rw [w64 (by omega) (by omega)]; omega⟩
  have en : Aside0 (wrap64 ((n : Int) + 1) = ((n + 1 : Nat) : Int)) := ⟨by rw [w64 (by omega) (by omega)]; omega⟩
  have hdv := Aside0.mk (div_eq n (by omega))
  obtain ⟨b0, b1⟩ := bitOf_01 v kk
  have hput := Aside0.mk (put_impl_byte ys n _ hinv hn8 b0 b1)
  rw [addNum] at h
  have h' := ih (kk + 1) (n + 1) (addBit ys n (bitOf v kk)) (by omega) (by rw [addBit_length]; omega) (by rw [addBit_length]; exact hl) (Inv_bit ys _ _ hinv hn8 b0 b1)
   (by rw [show n + 1 + d = n + (d + 1) by omega]; exact h)
  refine Ev.step (fun k => ?_) h'
  rw [impl_PackInts.l4, if_pos hkw, ed.out, if_pos (Int.natCast_nonneg _), if_pos hlen, if_pos (Int.natCast_nonneg _), hdv.out.2, if_pos (Int.natCast_nonneg _), rd_app, and_bit v kk hv hk62,
   hput.out, Int.toNat_natCast, set_app, ek.out, en.out, addBit]

theorem impl_l3 (x0 pre B : List Int) (x7 : Nat) (hx7 : x7 ≤ 5000) (w : Nat) (hw : w ≤ 62) (hB : B.length ≤ 128) (hn : ∀ v ∈ B, okNum v) (hpre : pre.length ≤ 1000000) (r : List Int × Int) (d : Nat) :
  ∀ (i : Nat) (ys : List Int), i + d = B.length → B.length * w ≤ 8 * ys.length → ys.length ≤ 1000 → Inv ys (i * w) →
  Ev (fun k => impl_PackInts.l1 k x0 (pre ++ addList w (B.drop i) ys (i * w)) ((x7 + 128 : Nat) : Int)) r →
  Ev (fun k => impl_PackInts.l3 k x0 (pre ++ ys) (x7 : Int) (w : Int) (pre.length : Int) ((i * w : Nat) : Int) B (B.length : Int) (i : Int)) r := by
 have e1 : Aside0 (wrap64 ((x7 : Int) + 128) = ((x7 + 128 : Nat) : Int)) := ⟨by rw [w64 (by omega) (by omega)]; omega⟩
 induction d with
 | zero =>
  intro i ys hd hs hl hinv h
  rw [List.drop_of_length_le (by omega)] at h
  refine Ev.step (fun k => ?_) h
  rw [impl_PackInts.l3, if_neg (by omega), e1.out, addList]
 | succ d ih =>
  intro i ys hd hs hl hinv h
  have ed : B.drop i = rd B (i : Int) :: B.drop (i + 1) := by rw [rd_lt B i (by omega)]; exact List.drop_eq_getElem_cons (by omega)
  have hiw : i * w + w ≤ B.length * w := by
   have : (i + 1) * w ≤ B.length * w := Nat.mul_le_mul_right w (by omega)
   rwa [Nat.add_mul, Nat.one_mul] at this
  have e2 : (i + 1) * w = i * w + w := by rw [Nat.add_mul, Nat.one_mul]
  have e3 : Aside0 (wrap64 ((i : Int) + 1) = ((i + 1 : Nat) : Int)) := ⟨by rw [w64 (by omega) (by omega)]; omega⟩
  have hI : Inv (addNum w ys (i * w) (rd B (i : Int)) 0) ((i + 1) * w) := by rw [e2]; exact Inv_num _ w ys _ 0 hinv (by omega)
  have h' := ih (i + 1) (addNum w ys (i * w) (rd B (i : Int)) 0) (by omega) (by rw [addNum_length]; exact hs) (by rw [addNum_length]; exact hl) hI (by rw [ed, addList] at h; rw [e2]; exact h)
  rw [e2] at h'
  have h4 := impl_l4 x0 pre B (x7 : Int) w hw (B.length : Int) (i : Int) (rd B (i : Int)) (hn _ (rd_mem B i (by omega))) hpre r w 0 (i * w) ys (by omega) (by omega) hl hinv (by rw [e3.out]; exact h')
  rw [n0] at h4
  refine Ev.step (fun k => ?_) h4
  rw [impl_PackInts.l3, if_pos (by omega), if_pos (by omega), if_pos (by omega)]

theorem mx_nat (a b : Nat) : mx (a : Int) (b : Int) = ((max a b : Nat) : Int) := by unfold mx; split <;> omega

theorem len_of (v : Int) (hv : okNum v) : bits_Len.f (IntKind.u64.wrap v) = some ((Lib.bitLen v.toNat : Nat) : Int) := by
 have h1 := hv.1
 have h2 := hv.2
 have eu : IntKind.u64.wrap v = v := by simp [IntKind.wrap, IntKind.bits, IntKind.signed]; omega
 rw [eu]
 unfold bits_Len.f
 have h3 : v ≤ 18446744073709551615 := by omega
 rw [if_pos h1, if_pos h3]

theorem impl_l2 (x0 x6 B : List Int) (x7 : Nat) (hx7 : x7 ≤ 5000) (hB : B.length ≤ 128) (hn : ∀ v ∈ B, okNum v) (h6 : x6.length ≤ 900000) (r : List Int × Int) (d : Nat) :
  ∀ (i w : Nat), i + d = B.length → w ≤ 62 →
  (∀ W : Nat, W = (B.drop i).foldl (fun w v => max w (Lib.bitLen v.toNat)) w → Ev (fun k => impl_PackInts.l1 k x0 (x6 ++ [(W : Int)] ++ addList W B (zeros ((B.length * W + 7) / 8)) 0) ((x7 + 128 : Nat) : Int)) r) →
  Ev (fun k => impl_PackInts.l2 k x0 x6 (x7 : Int) B (w : Int) B (B.length : Int) (i : Int)) r := by
 induction d with
 | zero =>
  intro i w hi hw h
  have h1 := h w (by rw [List.drop_of_length_le (by omega), List.foldl_nil])
  obtain ⟨em0, hs1, hs2⟩ := size_eq _ _ hB hw
  rw [Int.mul_comm] at em0
  have em := Aside0.mk em0
  clear em0
  have ew : Aside0 ((w : Int) % 256 = (w : Int)) := ⟨Int.emod_eq_of_lt (by omega) (by omega)⟩
  have hz : (zeros ((B.length * w + 7) / 8)).length = (B.length * w + 7) / 8 := by simp [zeros]
  have h3 := impl_l3 x0 (x6 ++ [(w : Int)]) B x7 hx7 w hw hB hn (by simp; omega) r B.length 0 (zeros ((B.length * w + 7) / 8)) (by omega) (by rw [hz]; exact hs2) (by rw [hz]; omega) (by rw [Nat.zero_mul]; exact Inv_zeros _)
   (by rw [Nat.zero_mul, List.drop_zero]; exact h1)
  rw [Nat.zero_mul, n0] at h3
  have c1 : x6.length < 140737488355328 := by omega
  have c2 : (x6 ++ [(w : Int)]).length + (B.length * w + 7) / 8 < 140737488355328 := by simp only [List.length_append, List.length_singleton]; omega
  have c3 : ¬ ((i : Int) < (B.length : Int)) := by omega
  refine Ev.step (fun k => ?_) h3
  rw [impl_PackInts.l2, if_neg c3, if_pos c1, ew.out, Option.bind_some, em.out, if_pos (Int.natCast_nonneg _), Int.toNat_natCast, if_pos c2, zeros]
 | succ d ih =>
  intro i w hi hw h
  have hv := hn _ (rd_mem B i (by omega))
  have hb := bitLen_62 _ hv
  have ed : B.drop i = rd B (i : Int) :: B.drop (i + 1) := by rw [rd_lt B i (by omega)]; exact List.drop_eq_getElem_cons (by omega)
  have e3 : Aside0 (wrap64 ((i : Int) + 1) = ((i + 1 : Nat) : Int)) := ⟨by rw [w64 (by omega) (by omega)]; omega⟩
  have h' := ih (i + 1) (max w (Lib.bitLen (rd B (i : Int)).toNat)) (by omega) (by omega) (fun W hW => h W (by rw [ed, List.foldl_cons]; exact hW))
  have c1 : (i : Int) < (B.length : Int) := by omega
  refine Ev.step (fun k => ?_) h'
  rw [impl_PackInts.l2, if_pos c1, if_pos (Int.natCast_nonneg _), if_pos c1, len_of _ hv]
  simp only [Option.bind_some]
  rw [mx_nat, e3.out]

theorem impl_l1 (x0 : List Int) (hx : x0.length ≤ 4096) (hn : ∀ v ∈ x0, okNum v) (d : Nat) : ∀ (at' : Nat) (x6 : List Int), x0.length < at' + 128 * d → at' < x0.length + 128 → x6.length + 1000 * d < 900000 →
  Ev (fun k => impl_PackInts.l1 k x0 x6 (at' : Int)) (x6 ++ packTail d (x0.drop at'), 0) := by
 induction d with
 | zero =>
  intro at' x6 h1 h2 h3
  refine Ev.step (fun k => ?_) (Ev.now _)
  rw [impl_PackInts.l1, if_neg (by omega)]; simp [packTail]
 | succ d ih =>
  intro at' x6 h1 h2 h3
  by_cases hlt : at' < x0.length
  ·have hb : ∀ v ∈ (x0.drop at').take 128, okNum v := fun v hv => hn v (List.mem_of_mem_drop (List.mem_of_mem_take hv))
   have hlen : ((x0.drop at').take 128).length ≤ 128 := by simp; omega
   have hw := wid_62 _ hb
   have e1 : Aside0 (wrap64 ((at' : Int) + 128) = ((at' + 128 : Nat) : Int)) := ⟨by rw [w64 (by omega) (by omega)]; omega⟩
   have hne : ¬ ((x0.drop at').length = 0) := by simp; omega
   obtain ⟨_, hs1, hs2⟩ := size_eq _ _ hlen hw
   have hbl := blk_length ((x0.drop at').take 128)
   have hcut := cut_eq x0 at' (by omega)
   rw [packTail, if_neg hne, List.drop_drop]
   generalize hB : (x0.drop at').take 128 = B at *
   have hrest := ih (at' + 128) (x6 ++ [(wid B : Int)] ++ blk B) (by omega) (by omega) (by simp only [List.length_append, List.length_singleton]; omega)
   have eassoc : x6 ++ ((wid B : Int) :: (blk B ++ packTail d (x0.drop (at' + 128)))) = x6 ++ [(wid B : Int)] ++ blk B ++ packTail d (x0.drop (at' + 128)) := by simp
   rw [eassoc]
   have h2 := impl_l2 x0 x6 B at' (by omega) hlen hb (by omega) (x6 ++ [(wid B : Int)] ++ blk B ++ packTail d (x0.drop (at' + 128)), 0) B.length 0 0 (by omega) (by omega) (fun W hW => by
    rw [List.drop_zero] at hW
    have hW' : W = wid B := hW
    subst hW'
    have hblk : blk B = addList (wid B) B (zeros ((B.length * wid B + 7) / 8)) 0 := rfl
    rw [← hblk]; exact hrest)
   rw [n0] at h2
   have c1 : (at' : Int) < (x0.length : Int) := by omega
   have c2 : (at' : Int) ≤ ((min (at' + 128) x0.length : Nat) : Int) := by omega
   have c3 : ((min (at' + 128) x0.length : Nat) : Int) ≤ (x0.length : Int) := by omega
   refine Ev.step (fun k => ?_) h2
   rw [impl_PackInts.l1, if_pos c1, if_pos (Int.natCast_nonneg _), e1.out, mn_nat, if_pos c2, if_pos c3, Int.toNat_natCast, Int.toNat_natCast, hcut]
  ·refine Ev.step (fun k => ?_) (Ev.now _)
   rw [impl_PackInts.l1, if_neg (by omega), packTail, if_pos (by simp; omega)]; simp

theorem impl_Pack_l0 (l : List Int) (hx : l.length ≤ 4096) (d : Nat) : ∀ i : Nat, i + d = l.length → (∀ j, j < i → okB (l.getD j 0) = true) →
  Ev (fun k => impl_PackInts.l0 k l l (l.length : Int) (i : Int)) (if l.all okB then (packed l, 0) else ([], 12)) := by
 induction d with
 | zero =>
  intro i hi hj
  have hall : l.all okB = true := by
   rw [List.all_eq_true]
   intro x hx
   obtain ⟨j, hj', rfl⟩ := List.getElem_of_mem hx
   have := hj j (by omega)
   rwa [List.getD_eq_getElem?_getD, List.getElem?_eq_getElem hj'] at this
  rw [if_pos hall]
  have hp : Ev (fun k => impl_putInt.f k [] (l.length : Int)) (vb 8 (l.length : Int)) :=
   ⟨9, fun k hk => by
    have h := put_impl impl_putInt.l0 (fun _ _ _ => rfl) 8 (by omega) k [] (l.length : Int) (by simp) (by omega) (by rw [pow128_8]; omega) (by omega)
    rw [List.nil_append] at h
    exact h⟩
  have hl := (vb_length 8 (l.length : Int)).2
  have h0 := impl_l1 l hx (all_ok l hall) 33 0 (vb 8 (l.length : Int)) (by omega) (by omega) (by omega)
  rw [List.drop_zero, n0] at h0
  refine Ev.step (f := fun k => (impl_putInt.f k [] (l.length : Int)).bind fun t => impl_PackInts.l1 k l t 0) (fun k => ?_) (Ev.bind hp h0)
  rw [impl_PackInts.l0, if_neg (by omega)]
 | succ d ih =>
  intro i hi hj
  have e1 : Aside0 (wrap64 ((i : Int) + 1) = ((i + 1 : Nat) : Int)) := ⟨by rw [w64 (by omega) (by omega)]; omega⟩
  by_cases c : okB (l.getD i 0) = true
  ·refine Ev.step (fun k => ?_) (ih (i + 1) (by omega) (fun j hj' => by
    by_cases cj : j = i
    ·rw [cj]; exact c
    ·exact hj j (by omega)))
   rw [impl_PackInts.l0, if_pos (by omega), if_pos (by omega), if_pos (by omega), rd_nat, within_num]
   simp only [Option.bind_some]
   rw [if_pos c, e1.out]
  ·have hall : ¬ (l.all okB = true) := by
    intro h
    have := List.all_eq_true.1 h (rd l (i : Int)) (rd_mem l i (by omega))
    rw [rd_nat] at this; exact c this
   rw [if_neg hall]
   refine Ev.step (fun k => ?_) (Ev.now _)
   rw [impl_PackInts.l0, if_pos (by omega), if_pos (by omega), if_pos (by omega), rd_nat, within_num]
   simp only [Option.bind_some]
   rw [if_neg c]

theorem impl_PackInts_eq (l : List Int) : Ev (fun k => impl_PackInts.f k l) (packTell l) := by
 unfold packTell
 by_cases h : (l.length : Int) > 4096
 ·rw [if_pos h]
  exact Ev.congr (fun k => by unfold impl_PackInts.f; rw [if_pos h]) (Ev.now _)
 ·rw [if_neg h]
  have h0 := impl_Pack_l0 l (by omega) l.length 0 (by omega) (fun j hj => by omega)
  rw [n0] at h0
  exact Ev.congr (fun k => by unfold impl_PackInts.f; rw [if_neg h]) h0

theorem packTail_length (d : Nat) : ∀ l : List Int, (∀ v ∈ l, okNum v) → (packTail d l).length ≤ 1000 * d := by
 induction d with
 | zero => intro l _; simp [packTail]
 | succ d ih =>
  intro l hn
  unfold packTail
  split
  ·simp
  ·have hb : ∀ v ∈ l.take 128, okNum v := fun v hv => hn v (List.mem_of_mem_take hv)
   have hw := wid_62 _ hb
   have hlen : (l.take 128).length ≤ 128 := by simp; omega
   have hmul : (l.take 128).length * wid (l.take 128) ≤ 128 * 62 := Nat.mul_le_mul hlen hw
   have := ih (l.drop 128) (fun v hv => hn v (List.mem_of_mem_drop hv))
   have hbl := blk_length (l.take 128)
   simp only [List.length_cons, List.length_append]
   omega

theorem spec_PackInts_eq (l : List Int) : Ev (fun k => spec_PackInts.f k l) (packTell l) := by
 unfold packTell
 by_cases h : (l.length : Int) > 4096
 ·rw [if_pos h]
  exact Ev.congr (fun k => by unfold spec_PackInts.f; rw [if_pos h]) (Ev.now _)
 ·rw [if_neg h]
  refine Ev.congr (f := fun k => (spec_l03AllNums.f k l).bind fun t => if t = true then ((spec_l03Pack.f k l).bind fun t2 => some (t2, 0)) else some ([], 12)) (fun k => by unfold spec_PackInts.f; rw [if_neg h]) ?_
  refine Ev.bind (allNums_eq l (by omega)) ?_
  by_cases c : l.all okB = true
  ·rw [if_pos c]
   refine Ev.congr (f := fun k => (spec_l03Pack.f k l).bind fun t2 => some (t2, 0)) (fun k => by rw [if_pos c]) ?_
   exact Ev.bind (spec_Pack_eq l (by omega) (all_ok l c)) (Ev.now _)
  ·rw [if_neg c]
   exact Ev.congr (fun k => by rw [if_neg c]) (Ev.now _)


/-- A number that is read: d bits more from bit p + j of the bytes from a on. -/
def numFrom (b : List Int) (a p : Nat) : Nat → Nat → Int → Int
 | 0, _, v => v
 | d + 1, j, v => numFrom b a p d (j + 1) (v + bitOf (b.getD (a + (p + j) / 8) 0) ((p + j) % 8) * 2 ^ j)
/-- d numbers of w bits, from the i-th on. -/
def nums (b : List Int) (a w : Nat) : Nat → Nat → List Int
 | 0, _ => []
 | d + 1, i => numFrom b a (i * w) w 0 0 :: nums b a w d (i + 1)

theorem nums_length (b : List Int) (a w d : Nat) : ∀ i, (nums b a w d i).length = d := by
 induction d with
 | zero => intro i; rfl
 | succ d ih => intro i; rw [nums, List.length_cons, ih]

theorem step_bound (x : Int) (v : Int) (j : Nat) (h0 : 0 ≤ v) (h1 : v < 2 ^ j) (k : Nat) : 0 ≤ bitOf x k * 2 ^ j ∧ bitOf x k * 2 ^ j ≤ 2 ^ j ∧ v + bitOf x k * 2 ^ j < 2 ^ (j + 1) := by
 obtain ⟨b0, b1⟩ := bitOf_01 x k
 have hp := q2pos j
 have hb : 0 ≤ bitOf x k * 2 ^ j := Int.mul_nonneg b0 (Int.le_of_lt hp)
 have hb' : bitOf x k * 2 ^ j ≤ 1 * 2 ^ j := Int.mul_le_mul_of_nonneg_right b1 (Int.le_of_lt hp)
 rw [q2, Int.pow_one]
 generalize bitOf x k * (2 : Int) ^ j = z at *
 generalize (2 : Int) ^ j = p at *
 omega

theorem numFrom_bound (b : List Int) (a p d : Nat) : ∀ (j : Nat) (v : Int), 0 ≤ v → v < 2 ^ j → 0 ≤ numFrom b a p d j v ∧ numFrom b a p d j v < 2 ^ (j + d) := by
 induction d with
 | zero => intro j v h0 h1; exact ⟨h0, h1⟩
 | succ d ih =>
  intro j v h0 h1
  obtain ⟨s0, _, s2⟩ := step_bound (b.getD (a + (p + j) / 8) 0) v j h0 h1 ((p + j) % 8)
  rw [numFrom, show j + (d + 1) = j + 1 + d by omega]
  exact ih _ _ (Int.add_nonneg h0 s0) s2

theorem num_ok (b : List Int) (a p w : Nat) (hw : w ≤ 62) : okNum (numFrom b a p w 0 0) := by
 obtain ⟨h0, h1⟩ := numFrom_bound b a p w 0 0 (by decide) (by decide)
 have h2 := q2le (0 + w) 62 (by omega)
 have h3 : (2 : Int) ^ 62 = 4611686018427387904 := rfl
 rw [h3] at h2
 exact ⟨h0, by omega⟩

theorem nums_ok (b : List Int) (a w : Nat) (hw : w ≤ 62) (d : Nat) : ∀ i, ∀ v ∈ nums b a w d i, okNum v := by
 induction d with
 | zero => intro i v hv; cases hv
 | succ d ih =>
  intro i v hv
  rcases List.mem_cons.1 hv with rfl | hv
  ·exact num_ok b a _ w hw
  ·exact ih _ v hv

theorem pw62 (j : Nat) (hj : j ≤ 61) : (2 : Int) ^ j ≤ 2305843009213693952 := q2le j 61 hj

theorem shl64 (x : Int) (j : Nat) (hj : j ≤ 61) (h0 : 0 ≤ x * 2 ^ j) (h1 : x * 2 ^ j ≤ 2305843009213693952) : shl .i64 x (j : Int) = x * 2 ^ j := by
 unfold shl
 have e : min ((j : Int)).toNat IntKind.i64.bits = j := by
  have : IntKind.i64.bits = 64 := rfl
  omega
 rw [e, IntKind.wrap_i64]
 generalize x * (2 : Int) ^ j = z at *
 omega

theorem byte_ok (b : List Int) (hb : ∀ x ∈ b, 0 ≤ x ∧ x ≤ 255) (i : Nat) (hi : i < b.length) : 0 ≤ b.getD i 0 ∧ b.getD i 0 ≤ 255 := by
 have := hb _ (rd_mem b i hi)
 rwa [rd_nat] at this

theorem shr8_bit (x : Int) (m : Nat) (hm : m ≤ 7) (h0 : 0 ≤ x) (h1 : x ≤ 255) : Go.bits .and .u8 (shr .u8 x (m : Int)) 1 = bitOf x m := by
 unfold shr
 have e : min ((m : Int)).toNat IntKind.u8.bits = m := by
  have : IntKind.u8.bits = 8 := rfl
  omega
 rw [e]
 obtain ⟨d0, d1⟩ := div_range x m h0
 unfold bitOf
 generalize x / (2 : Int) ^ m = z at *
 exact bits_mask .u8 8 (by decide) wraps_u8 1 (by decide) z d0 (by omega)

theorem place_eq (a q n : Nat) (ha : a ≤ 1048576) (hq : q ≤ 100000) : wrap64 ((a : Int) + ((q / 8 : Nat) : Int)) = ((a + q / 8 : Nat) : Int) := by
 rw [w64 (by omega) (by omega)]; omega

/-- The program's bits. -/
theorem impl_u2 (b : List Int) (a w i : Nat) (n sz m : Int) (out : List Int) (hl : b.length ≤ 1048576) (hb : ∀ x ∈ b, 0 ≤ x ∧ x ≤ 255) (hw : w ≤ 62) (hi : i < 128) (hout : out.length ≤ 5000)
  (p : Nat) (hp : Aside0 (p = i * w)) (hp1 : p ≤ 8000) (hroom : a + (p + w + 7) / 8 ≤ b.length) (r : List Int × Int) (d : Nat) : ∀ (j : Nat) (v : Int), j + d = w → 0 ≤ v → v < 2 ^ j →
  Ev (fun k => impl_UnpackInts.l1 k b n (a : Int) (out ++ [numFrom b a p d j v]) (w : Int) sz m ((i + 1 : Nat) : Int)) r →
  Ev (fun k => impl_UnpackInts.l2 k b n (a : Int) out (w : Int) sz (i : Int) v m (i : Int) (w : Int) (j : Int)) r := by
 have e1 : Aside0 (wrap64 ((i : Int) + 1) = ((i + 1 : Nat) : Int)) := ⟨by rw [w64 (by omega) (by omega)]; omega⟩
 induction d with
 | zero =>
  intro j v hd h0 h1 h
  refine Ev.step (fun k => ?_) h
  rw [impl_UnpackInts.l2, if_neg (by omega), if_pos (by omega), e1.out, numFrom]
 | succ d ih =>
  intro j v hd h0 h1 h
  have hj : j ≤ 61 := by omega
  obtain ⟨s0, s1, s2⟩ := step_bound (b.getD (a + (p + j) / 8) 0) v j h0 h1 ((p + j) % 8)
  have hpw := pw62 j hj
  have em := Aside0.mk (at_eq i w j (p + j) (by omega) hw (by omega) (by rw [hp.out]))
  have hdv := Aside0.mk (div_eq (p + j) (by omega))
  have hpl := Aside0.mk (place_eq a (p + j) 0 (by omega) (by omega))
  have hin : a + (p + j) / 8 < b.length := by omega
  obtain ⟨y0, y1⟩ := byte_ok b hb _ hin
  have hbit := Aside0.mk (shr8_bit (b.getD (a + (p + j) / 8) 0) ((p + j) % 8) (by omega) y0 y1)
  have hbw : Aside0 (wrap64 (bitOf (b.getD (a + (p + j) / 8) 0) ((p + j) % 8)) = bitOf (b.getD (a + (p + j) / 8) 0) ((p + j) % 8)) := ⟨by
   obtain ⟨b0, b1⟩ := bitOf_01 (b.getD (a + (p + j) / 8) 0) ((p + j) % 8)
   exact w64 (by omega) (by omega)⟩
  have hsh := Aside0.mk (shl64 (bitOf (b.getD (a + (p + j) / 8) 0) ((p + j) % 8)) j hj s0 (by omega))
  have ej : Aside0 (wrap64 ((j : Int) + 1) = ((j + 1 : Nat) : Int)) := ⟨by rw [w64 (by omega) (by omega)]; omega⟩
  rw [numFrom] at h
  have h' := ih (j + 1) _ (by omega) (Int.add_nonneg h0 s0) s2 h
  have c1 : (j : Int) < (w : Int) := by omega
  have c2 : ((a + (p + j) / 8 : Nat) : Int) < (b.length : Int) := Int.ofNat_lt.2 hin
  have hor : Aside0 (Go.bits .or .i64 v (bitOf (b.getD (a + (p + j) / 8) 0) ((p + j) % 8) * 2 ^ j) = v + bitOf (b.getD (a + (p + j) / 8) 0) ((p + j) % 8) * 2 ^ j) := ⟨by
   have hm : bitOf (b.getD (a + (p + j) / 8) 0) ((p + j) % 8) * 2 ^ j % 2 ^ j = 0 := Int.mul_emod_left _ _
   clear em hdv hpl hbit hsh ej ih h h' s2 hbw
   generalize bitOf (b.getD (a + (p + j) / 8) 0) ((p + j) % 8) * 2 ^ j = z at *
   have g0 : v < 2 ^ 63 := by generalize (2 : Int) ^ j = q at *; omega
   have g1 : z < 2 ^ 63 := by generalize (2 : Int) ^ j = q at *; omega
   rw [or_comm64 _ _ h0 g0 s0 g1, or_join j (by omega) z v s0 hm g1 h0 h1, Int.add_comm]⟩
  refine Ev.step (fun k => ?_) h'
  rw [impl_UnpackInts.l2, if_pos c1, em.out, hdv.out.1, hdv.out.2, hpl.out, if_pos (Int.natCast_nonneg _), if_pos c2, if_pos (Int.natCast_nonneg _), if_pos (Int.natCast_nonneg _), rd_nat, hbit.out, hbw.out, hsh.out, hor.out, ej.out]

theorem impl_u1 (b : List Int) (a w m sz : Nat) (n : Int) (hl : b.length ≤ 1048576) (hb : ∀ x ∈ b, 0 ≤ x ∧ x ≤ 255) (hw : w ≤ 62) (hm : m ≤ 128) (hroom : a + sz ≤ b.length) (hsz : Aside0 (sz = (m * w + 7) / 8)) (r : List Int × Int) (d : Nat) : ∀ (i : Nat) (out : List Int), i + d = m → out.length + d ≤ 5000 →
  Ev (fun k => impl_UnpackInts.l0 k b n ((a + sz : Nat) : Int) (out ++ nums b a w d i)) r →
  Ev (fun k => impl_UnpackInts.l1 k b n (a : Int) out (w : Int) (sz : Int) (m : Int) (i : Int)) r := by
 have e1 : Aside0 (wrap64 ((a : Int) + (sz : Int)) = ((a + sz : Nat) : Int)) := ⟨by rw [w64 (by omega) (by omega)]; omega⟩
 induction d with
 | zero =>
  intro i out hd ho h
  rw [nums, List.append_nil] at h
  refine Ev.step (fun k => ?_) h
  rw [impl_UnpackInts.l1, if_neg (by omega), e1.out]
 | succ d ih =>
  intro i out hd ho h
  have hroom2 : a + (i * w + w + 7) / 8 ≤ b.length ∧ i * w ≤ 8000 := by
   have h1 : (i + 1) * w ≤ m * w := Nat.mul_le_mul_right w (by omega)
   have h2 : m * w ≤ 128 * 62 := Nat.mul_le_mul hm hw
   rw [Nat.add_mul, Nat.one_mul] at h1
   have := hsz.out
   generalize i * w = x at *
   generalize m * w = y at *
   omega
  obtain ⟨p, hp⟩ : ∃ p, p = i * w := ⟨_, rfl⟩
  rw [← hp] at hroom2
  have hp' := Aside0.mk hp
  rw [nums, ← hp] at h
  clear hp
  have h' := ih (i + 1) (out ++ [numFrom b a p w 0 0]) (by omega) (by simp; omega) (by rw [List.append_assoc]; exact h)
  have h2 := impl_u2 b a w i n (sz : Int) (m : Int) out hl hb hw (by omega) (by omega) p hp' hroom2.2 hroom2.1 r w 0 0 (by omega) (by decide) (by decide) h'
  rw [n0] at h2
  refine Ev.step (fun k => ?_) h2
  rw [impl_UnpackInts.l1, if_pos (by omega)]

/-- What both read: the numbers and the place behind them, or nothing. -/
def parse (b : List Int) (n : Nat) : Nat → List Int → Nat → Option (List Int × Nat)
 | 0, out, a => some (out, a)
 | d + 1, out, a =>
  if out.length < n then
   if a < b.length ∧ b.getD a 0 ≤ 62 then
    if a + 1 + (min 128 (n - out.length) * (b.getD a 0).toNat + 7) / 8 ≤ b.length then
     parse b n d (out ++ nums b (a + 1) (b.getD a 0).toNat (min 128 (n - out.length)) 0) (a + 1 + (min 128 (n - out.length) * (b.getD a 0).toNat + 7) / 8)
    else none
   else none
  else some (out, a)

def finS (b : List Int) (st : Nat) : Option (List Int × Nat) → List Int × Int × Bool
 | none => ([], 0, false)
 | some (o, a) => if (strOfNums (packed o)).toList = (strOfNums ((b.take a).drop st)).toList then (o, (a : Int), true) else ([], 0, false)
def finI (b : List Int) : Option (List Int × Nat) → List Int × Int
 | none => ([], 3)
 | some (o, _) => if (strOfNums (packed o)).toList = (strOfNums b).toList then (o, 0) else ([], 3)

theorem sub_len (n l : Nat) (hn : n ≤ 4096) (h : l < n) : mn 128 (wrap64 ((n : Int) - (l : Int))) = ((min 128 (n - l) : Nat) : Int) := by
 have e : wrap64 ((n : Int) - (l : Int)) = ((n - l : Nat) : Int) := by rw [w64 (by omega) (by omega)]; omega
 have e2 : (128 : Int) = ((128 : Nat) : Int) := rfl
 rw [e, e2, mn_nat]

theorem size_eq2 (n w : Nat) (hn : n ≤ 128) (hw : w ≤ 62) : wrap64 (Int.tdiv (wrap64 (wrap64 ((w : Int) * (n : Int)) + 7)) 8) = (((n * w + 7) / 8 : Nat) : Int) := by
 rw [Int.mul_comm]; exact (size_eq n w hn hw).1

theorem impl_u0 (b : List Int) (n : Nat) (hl : b.length ≤ 1048576) (hb : ∀ x ∈ b, 0 ≤ x ∧ x ≤ 255) (hn : n ≤ 4096) (d : Nat) : ∀ (out : List Int) (a : Nat), (∀ v ∈ out, okNum v) → out.length ≤ n → n ≤ out.length + 128 * d → a ≤ b.length →
  Ev (fun k => impl_UnpackInts.l0 k b (n : Int) (a : Int) out) (finI b (parse b n d out a)) := by
 have fin : ∀ (out : List Int) (a : Nat), (∀ v ∈ out, okNum v) → out.length = n → Ev (fun k => impl_UnpackInts.l0 k b (n : Int) (a : Int) out) (finI b (some (out, a))) := by
  intro out a hok hlen
  have hp := impl_PackInts_eq out
  have hall : out.all okB = true := List.all_eq_true.2 fun v hv => (okB_iff v).2 (hok v hv)
  unfold packTell at hp
  rw [if_neg (by omega), if_pos hall] at hp
  refine Ev.step (f := fun k => (impl_PackInts.f k out).bind fun bt215 => if bt215.2 = 0 then (if (strOfNums bt215.1).toList = (strOfNums b).toList then some (out, 0) else some ([], 3)) else some ([], 3)) (fun k => ?_) ?_
  ·rw [impl_UnpackInts.l0, if_neg (by omega)]
  ·refine Ev.bind hp ?_
   by_cases c : (strOfNums (packed out)).toList = (strOfNums b).toList
   ·simp only [finI, if_pos c, if_true]; exact Ev.now _
   ·simp only [finI, if_neg c, if_true]; exact Ev.now _
 induction d with
 | zero =>
  intro out a hok h1 h2 ha
  exact fin out a hok (by omega)
 | succ d ih =>
  intro out a hok h1 h2 ha
  rw [parse]
  by_cases hlt : out.length < n
  ·rw [if_pos hlt]
   have es := Aside0.mk (sub_len n out.length hn hlt)
   have c1 : (out.length : Int) < (n : Int) := by omega
   by_cases hin : a < b.length
   ·obtain ⟨y0, y1⟩ := byte_ok b hb a hin
    have ca : ¬ ((a : Int) ≥ (b.length : Int)) := by omega
    have ca2 : (a : Int) < (b.length : Int) := by omega
    by_cases h62 : b.getD a 0 ≤ 62
    ·rw [if_pos ⟨hin, h62⟩]
     obtain ⟨w, hw⟩ : ∃ w : Nat, b.getD a 0 = (w : Int) := ⟨(b.getD a 0).toNat, by omega⟩
     rw [hw] at h62 y0 y1 ⊢
     rw [Int.toNat_natCast]
     have hw62 : w ≤ 62 := by omega
     obtain ⟨m, hm⟩ : ∃ m, m = min 128 (n - out.length) := ⟨_, rfl⟩
     have hm' : m ≤ 128 ∧ 1 ≤ m ∧ out.length + m ≤ n ∧ n ≤ out.length + m + 128 * d := by omega
     rw [← hm] at es ⊢
     clear hm
     have ez1 := Aside0.mk (size_eq m w hm'.1 hw62)
     have ez := Aside0.mk (size_eq2 m w hm'.1 hw62)
     obtain ⟨sz, hsz⟩ : ∃ sz, sz = (m * w + 7) / 8 := ⟨_, rfl⟩
     rw [← hsz] at ez ez1 ⊢
     have hsz' := Aside0.mk hsz
     clear hsz
     have hsb : sz ≤ 992 := ez1.out.2.1
     have ea : Aside0 (wrap64 ((a : Int) + 1) = ((a + 1 : Nat) : Int)) := ⟨by rw [w64 (by omega) (by omega)]; omega⟩
     have el : Aside0 (wrap64 (((a + 1 : Nat) : Int) + (sz : Int)) = ((a + 1 + sz : Nat) : Int)) := ⟨by rw [w64 (by omega) (by omega)]; omega⟩
     have ew : Aside0 (wrap64 (w : Int) = (w : Int)) := ⟨w64 (by omega) (by omega)⟩
     by_cases hroom : a + 1 + sz ≤ b.length
     ·rw [if_pos hroom]
      have h0 := ih (out ++ nums b (a + 1) w m 0) (a + 1 + sz) (fun v hv => by
       rcases List.mem_append.1 hv with h | h
       ·exact hok v h
       ·exact nums_ok b _ w hw62 m 0 v h) (by rw [List.length_append, nums_length]; omega) (by rw [List.length_append, nums_length]; omega) hroom
      have h1 := impl_u1 b (a + 1) w m sz (n : Int) hl hb hw62 hm'.1 hroom hsz' _ m 0 out (by omega) (by omega) h0
      rw [n0] at h1
      have cz : ¬ (((a + 1 + sz : Nat) : Int) > (b.length : Int)) := by omega
      refine Ev.steps 2 (fun k => ?_) h1
      rw [impl_UnpackInts.l0, if_pos c1, if_neg ca, if_pos (Int.natCast_nonneg _), if_pos ca2, es.out, rd_nat, hw, decide_eq_false (by omega), impl_UnpackInts.j2, if_neg Bool.false_ne_true, if_pos (Int.natCast_nonneg _), if_pos ca2, rd_nat, hw, ew.out, ez.out, ea.out, el.out, if_neg cz]
     ·rw [if_neg hroom]
      have cz : ((a + 1 + sz : Nat) : Int) > (b.length : Int) := by omega
      refine Ev.steps 2 (fun k => ?_) (Ev.now _)
      rw [impl_UnpackInts.l0, if_pos c1, if_neg ca, if_pos (Int.natCast_nonneg _), if_pos ca2, es.out, rd_nat, hw, decide_eq_false (by omega), impl_UnpackInts.j2, if_neg Bool.false_ne_true, if_pos (Int.natCast_nonneg _), if_pos ca2, rd_nat, hw, ew.out, ez.out, ea.out, el.out, if_pos cz]
      rfl
    ·rw [if_neg (fun h => h62 h.2)]
     refine Ev.steps 2 (fun k => ?_) (Ev.now _)
     rw [impl_UnpackInts.l0, if_pos c1, if_neg ca, if_pos (Int.natCast_nonneg _), if_pos ca2, rd_nat, decide_eq_true (by omega), impl_UnpackInts.j2, if_pos rfl]
     rfl
   ·rw [if_neg (fun h => hin h.1)]
    have ca : (a : Int) ≥ (b.length : Int) := by omega
    refine Ev.steps 2 (fun k => ?_) (Ev.now _)
    rw [impl_UnpackInts.l0, if_pos c1, if_pos ca, impl_UnpackInts.j2, if_pos rfl]
    rfl
  ·rw [if_neg hlt]
   exact fin out a hok (by omega)

theorem take_block (N more : List Int) (h : N.length = 128 ∨ more = []) (hN : N.length ≤ 128) : (N ++ more).take 128 = N ∧ (N ++ more).drop 128 = more := by
 rcases h with h | rfl
 ·rw [← h]; simp
 ·rw [List.append_nil, List.take_of_length_le hN, List.drop_of_length_le hN]; exact ⟨rfl, rfl⟩

theorem drop_cons {b : List Int} {a : Nat} {x : Int} {t : List Int} (h : b.drop a = x :: t) : b.getD a 0 = x ∧ b.drop (a + 1) = t := by
 have hlt : a < b.length := by
  rcases Nat.lt_or_ge a b.length with h' | h'
  ·exact h'
  ·rw [List.drop_of_length_le h'] at h; cases h
 rw [List.drop_eq_getElem_cons hlt] at h
 injection h with h1 h2
 refine ⟨?_, h2⟩
 rw [List.getD_eq_getElem?_getD, List.getElem?_eq_getElem hlt]; exact h1

theorem parse_end (b : List Int) (n : Nat) (hb : ∀ x ∈ b, 0 ≤ x ∧ x ≤ 255) (d : Nat) : ∀ (out : List Int) (a : Nat) (o : List Int) (a' : Nat), parse b n d out a = some (o, a') → out.length ≤ n → n ≤ out.length + 128 * d → a ≤ b.length →
  ∃ more, o = out ++ more ∧ o.length = n ∧ a ≤ a' ∧ a' ≤ b.length ∧ (∀ v ∈ more, okNum v) ∧ ∀ D, more.length ≤ 128 * D → b.drop a = packTail D more → a' = b.length := by
 have fin : ∀ (out : List Int) (a : Nat), out.length = n → a ≤ b.length → ∃ more, out = out ++ more ∧ out.length = n ∧ a ≤ a ∧ a ≤ b.length ∧ (∀ v ∈ more, okNum v) ∧ ∀ D, more.length ≤ 128 * D → b.drop a = packTail D more → a = b.length := by
  intro out a h1 h2
  refine ⟨[], by simp, h1, Nat.le_refl _, h2, (fun v hv => by cases hv), fun D _ h => ?_⟩
  have : packTail D [] = [] := by cases D <;> simp [packTail]
  rw [this] at h
  have := congrArg List.length h
  simp at this
  omega
 induction d with
 | zero =>
  intro out a o a' h h1 h2 h3
  simp only [parse, Option.some.injEq, Prod.mk.injEq] at h
  obtain ⟨rfl, rfl⟩ := h
  exact fin out a (by omega) h3
 | succ d ih =>
  intro out a o a' h h1 h2 h3
  rw [parse] at h
  by_cases hlt : out.length < n
  ·rw [if_pos hlt] at h
   by_cases c1 : a < b.length ∧ b.getD a 0 ≤ 62
   ·rw [if_pos c1] at h
    obtain ⟨y0, y1⟩ := byte_ok b hb a c1.1
    obtain ⟨w, hw⟩ : ∃ w : Nat, b.getD a 0 = (w : Int) := ⟨(b.getD a 0).toNat, by omega⟩
    rw [hw, Int.toNat_natCast] at h
    obtain ⟨m, hm⟩ : ∃ m, m = min 128 (n - out.length) := ⟨_, rfl⟩
    rw [← hm] at h
    obtain ⟨sz, hsz⟩ : ∃ sz, sz = (m * w + 7) / 8 := ⟨_, rfl⟩
    rw [← hsz] at h
    by_cases c2 : a + 1 + sz ≤ b.length
    ·rw [if_pos c2] at h
     have hNl := nums_length b (a + 1) w m 0
     have hNok := nums_ok b (a + 1) w (by omega) m 0
     generalize nums b (a + 1) w m 0 = N at *
     obtain ⟨more, e1, e2, e3, e4, e5, e6⟩ := ih (out ++ N) (a + 1 + sz) o a' h (by rw [List.length_append]; omega) (by rw [List.length_append]; omega) c2
     refine ⟨N ++ more, by rw [e1, List.append_assoc], e2, by omega, e4, fun v hv => ?_, fun D hD hdrop => ?_⟩
     ·rcases List.mem_append.1 hv with hv | hv
      ·exact hNok v hv
      ·exact e5 v hv
     ·rw [List.length_append] at hD
      obtain ⟨D, rfl⟩ : ∃ D', D = D' + 1 := ⟨D - 1, by omega⟩
      have hlen2 : out.length + N.length + more.length = n := by rw [← e2, e1]; simp only [List.length_append]
      have hcase : N.length = 128 ∨ more = [] := by
       by_cases cm : m = 128
       ·left; omega
       ·right; exact List.length_eq_zero_iff.1 (by omega)
      obtain ⟨t1, t2⟩ := take_block N more hcase (by omega)
      rw [packTail, if_neg (by rw [List.length_append]; omega), t1, t2] at hdrop
      obtain ⟨f1, f2⟩ := drop_cons hdrop
      rw [hw] at f1
      have hwe : w = wid N := by omega
      have hbl := blk_length N
      rw [← hwe, hNl, ← hsz] at hbl
      refine e6 D ?_ ?_
      ·rcases hcase with hc | hc
       ·omega
       ·rw [hc]; simp
      ·have : b.drop (a + 1 + sz) = (b.drop (a + 1)).drop sz := by rw [List.drop_drop]
       rw [this, f2, ← hbl, List.drop_left]
    ·rw [if_neg c2] at h; cases h
   ·rw [if_neg c1] at h; cases h
  ·rw [if_neg hlt] at h
   simp only [Option.some.injEq, Prod.mk.injEq] at h
   obtain ⟨rfl, rfl⟩ := h
   exact fin out a (by omega) h3

theorem Inv_list (w : Nat) (l : List Int) : ∀ (ys : List Int) (n : Nat), Inv ys n → n + l.length * w ≤ 8 * ys.length → Inv (addList w l ys n) (n + l.length * w) := by
 induction l with
 | nil => intro ys n h _; simpa [addList] using h
 | cons v l ih =>
  intro ys n h hl
  have e : (v :: l).length * w = w + l.length * w := by rw [List.length_cons, Nat.add_mul, Nat.one_mul, Nat.add_comm]
  rw [e] at hl ⊢
  rw [addList, ← Nat.add_assoc]
  exact ih _ _ (Inv_num v w ys n 0 h (by omega)) (by rw [addNum_length]; omega)

theorem Inv_bytes (ys : List Int) (n : Nat) (h : Inv ys n) : ∀ x ∈ ys, 0 ≤ x ∧ x ≤ 255 := by
 intro x hx
 obtain ⟨i, hi, rfl⟩ := List.getElem_of_mem hx
 obtain ⟨h0, h1⟩ := h i hi
 have e : ys.getD i 0 = ys[i] := by rw [List.getD_eq_getElem?_getD, List.getElem?_eq_getElem hi]; rfl
 rw [e] at h0 h1
 have h2 := q2le (min 8 (n - 8 * i)) 8 (Nat.min_le_left _ _)
 have h3 : (2 : Int) ^ 8 = 256 := rfl
 rw [h3] at h2
 generalize (2 : Int) ^ min 8 (n - 8 * i) = q at *
 omega

theorem blk_bytes (b : List Int) : ∀ x ∈ blk b, 0 ≤ x ∧ x ≤ 255 := by
 refine Inv_bytes (blk b) (0 + b.length * wid b) (Inv_list (wid b) b _ 0 (Inv_zeros _) ?_)
 simp only [zeros, List.length_replicate]; omega

theorem packTail_bytes (d : Nat) : ∀ l : List Int, (∀ v ∈ l, okNum v) → ∀ x ∈ packTail d l, 0 ≤ x ∧ x ≤ 255 := by
 induction d with
 | zero => intro l _ x hx; cases hx
 | succ d ih =>
  intro l hn x hx
  rw [packTail] at hx
  by_cases c : l.length = 0
  ·rw [if_pos c] at hx; cases hx
  ·rw [if_neg c] at hx
   have hw := wid_62 (l.take 128) (fun v hv => hn v (List.mem_of_mem_take hv))
   rcases List.mem_cons.1 hx with rfl | hx
   ·omega
   ·rcases List.mem_append.1 hx with hx | hx
    ·exact blk_bytes _ x hx
    ·exact ih _ (fun v hv => hn v (List.mem_of_mem_drop hv)) x hx

theorem packed_bytes (l : List Int) (hl : l.length ≤ 4096) (hn : ∀ v ∈ l, okNum v) : ∀ x ∈ packed l, 0 ≤ x ∧ x ≤ 255 := by
 intro x hx
 unfold packed at hx
 rcases List.mem_append.1 hx with hx | hx
 ·exact vb_bytes 8 (l.length : Int) (by omega) (by rw [pow128_8]; omega) x hx
 ·exact packTail_bytes 33 l hn x hx

theorem str_inj : ∀ (x y : List Int), (∀ v ∈ x, 0 ≤ v ∧ v ≤ 255) → (∀ v ∈ y, 0 ≤ v ∧ v ≤ 255) → (strOfNums x).toList = (strOfNums y).toList → x = y := by
 intro x y hx hy h
 rw [Lib.strOfNums_toList, Lib.strOfNums_toList] at h
 unfold Lib.bytesOf at h
 induction x generalizing y with
 | nil => cases y with
  | nil => rfl
  | cons b y => cases h
 | cons a x ih =>
  cases y with
  | nil => cases h
  | cons b y =>
   simp only [List.map_cons, List.cons.injEq] at h
   have h1 := hx a List.mem_cons_self
   have h2 := hy b List.mem_cons_self
   have h3 := congrArg UInt8.toNat h.1
   simp only [UInt8.toNat_ofNat'] at h3
   have e : a = b := by omega
   rw [e, ih y (fun v hv => hx v (List.mem_cons_of_mem _ hv)) (fun v hv => hy v (List.mem_cons_of_mem _ hv)) h.2]

theorem vb_shape (d : Nat) : ∀ a, 0 ≤ a → a < 128 ^ (d + 1) → (∀ j, j + 1 < (vb d a).length → ¬ (vb d a).getD j 0 < 128) ∧ (vb d a).getD ((vb d a).length - 1) 0 < 128 := by
 induction d with
 | zero => intro a h0 h1; simp at h1; exact ⟨fun j hj => by simp [vb] at hj, by simpa [vb] using h1⟩
 | succ d ih =>
  intro a h0 h1
  have es : (128 : Int) ^ (d + 1 + 1) = 128 ^ (d + 1) * 128 := Int.pow_succ _ _
  unfold vb
  split
  ·rename_i c; exact ⟨fun j hj => by simp at hj, by simpa using c⟩
  ·obtain ⟨i1, i2⟩ := ih (a / 128) (by omega) (by rw [es] at h1; omega)
   have hlen := (vb_length d (a / 128)).1
   generalize vb d (a / 128) = t at *
   refine ⟨fun j hj => ?_, ?_⟩
   ·cases j with
    | zero => simp only [List.getD_cons_zero]; omega
    | succ j => rw [List.getD_cons_succ]; exact i1 j (by simp at hj; omega)
   ·have e : ((128 + a % 128) :: t).length - 1 = (t.length - 1) + 1 := by rw [List.length_cons]; omega
    rw [e, List.getD_cons_succ]; exact i2

/-- Bytes that begin as a number's are read up to its end. -/
theorem got_vb (b : List Int) (x : Int) (t : List Int) (h0 : 0 ≤ x) (h1 : x < 128 ^ 9) (hbt : b = vb 8 x ++ t) (r : Int × Int × Bool) (hG : GotAt b 0 0 r) (hr : r.2.2 = true) : r.2.1 = ((vb 8 x).length : Int) := by
 obtain ⟨_, _, m, _, g4, g5, g6, g7, g8⟩ := hG hr
 obtain ⟨s1, s2⟩ := vb_shape 8 x h0 h1
 have hlen := (vb_length 8 x).1
 generalize vb 8 x = v at *
 have hg : ∀ j, j < v.length → b.getD j 0 = v.getD j 0 := by
  intro j hj
  rw [hbt, List.getD_eq_getElem?_getD, List.getD_eq_getElem?_getD, List.getElem?_append_left hj]
 simp only [Nat.zero_add] at g6 g7 g8
 have e : m = v.length - 1 := by
  rcases Nat.lt_trichotomy m (v.length - 1) with h | h | h
  ·exact absurd (by rw [← hg m (by omega)]; exact g7) (s1 m (by omega))
  ·exact h
  ·exact absurd (by rw [hg _ (by omega)]; exact s2) (g8 (v.length - 1) (by omega) h)
 rw [g6, e]; omega

/-- What both tell of bytes: the numbers, or the code. -/
def unTell (b : List Int) (r : Int × Int × Bool) : List Int × Int :=
 if (b.length : Int) > 1048576 then ([], 2) else if r.2.2 = true then (if r.1 > 4096 then ([], 3) else finI b (parse b r.1.toNat 33 [] r.2.1.toNat)) else ([], 3)

theorem un_head (b : List Int) (hl : ¬ (b.length : Int) > 1048576) (hb : ∀ x ∈ b, 0 ≤ x ∧ x ≤ 255) (r : Int × Int × Bool) (hG : GotAt b 0 0 r) (hr : r.2.2 = true) (h4 : ¬ r.1 > 4096) :
  ∃ n a : Nat, r.1 = (n : Int) ∧ r.2.1 = (a : Int) ∧ n ≤ 4096 ∧ a ≤ b.length := by
 obtain ⟨g1, g2, m, _, _, g5, g6, _, _⟩ := hG hr
 exact ⟨r.1.toNat, m + 1, by omega, by rw [g6]; omega, by omega, by omega⟩

theorem impl_Unpack_eq (b : List Int) (hb : ∀ x ∈ b, 0 ≤ x ∧ x ≤ 255) (r : Int × Int × Bool) (hG : GotAt b 0 0 r) (hg : ¬ (b.length : Int) > 1048576 → Ev (fun k => impl_GetInt.f k b 0) (tell r)) : Ev (fun k => impl_UnpackInts.f k b) (unTell b r) := by
 unfold unTell
 by_cases hl : (b.length : Int) > 1048576
 ·rw [if_pos hl]
  refine Ev.congr (f := fun k => (impl_GetInt.f k b 0).bind fun bt212 => if bt212.2.2 = 2 then some ([], bt212.2.2) else if bt212.2.2 = 0 then impl_UnpackInts.j0 k b bt212.1 bt212.2.1 (decide (bt212.1 > 4096)) else impl_UnpackInts.j0 k b bt212.1 bt212.2.1 true) (fun k => rfl) ?_
  exact ⟨0, fun k _ => by simp only [impl_GetInt.f, if_pos hl, Option.bind_some, if_true]⟩
 ·rw [if_neg hl]
  refine Ev.congr (f := fun k => (impl_GetInt.f k b 0).bind fun bt212 => if bt212.2.2 = 2 then some ([], bt212.2.2) else if bt212.2.2 = 0 then impl_UnpackInts.j0 k b bt212.1 bt212.2.1 (decide (bt212.1 > 4096)) else impl_UnpackInts.j0 k b bt212.1 bt212.2.1 true) (fun k => rfl) ?_
  refine Ev.bind (hg hl) ?_
  unfold tell
  by_cases hr : r.2.2 = true
  ·rw [if_pos hr, if_pos hr]
   by_cases h4 : r.1 > 4096
   ·rw [if_pos h4]
    refine Ev.step (fun k => ?_) (Ev.now _)
    simp only [decide_eq_true h4]
    rw [if_neg (by decide), if_pos trivial, impl_UnpackInts.j0, if_pos rfl]
   ·rw [if_neg h4]
    obtain ⟨n, a, e1, e2, n4, ab⟩ := un_head b hl hb r hG hr h4
    rw [e1, e2] at *
    rw [Int.toNat_natCast, Int.toNat_natCast]
    refine Ev.step (fun k => ?_) (impl_u0 b n (by omega) hb n4 33 [] a (fun v hv => by cases hv) (by simp) (by simp; omega) ab)
    have h4' : ¬ ((n : Int) > 4096) := by omega
    simp only [decide_eq_false h4']
    rw [if_neg (by decide), if_pos trivial, impl_UnpackInts.j0, if_neg Bool.false_ne_true]
  ·rw [if_neg hr, if_neg hr]
   refine Ev.step (fun k => ?_) (Ev.now _)
   simp only
   rw [if_neg (by decide), if_neg (by decide), impl_UnpackInts.j0, if_pos rfl]

/-- The reference's parse, as it tells it: equal to the program's where it ends at the bytes' end. -/
theorem fin_same (b : List Int) (hl : ¬ (b.length : Int) > 1048576) (hb : ∀ x ∈ b, 0 ≤ x ∧ x ≤ 255) (r : Int × Int × Bool) (hG : GotAt b 0 0 r) (hr : r.2.2 = true) (n a : Nat) (e1 : r.1 = (n : Int)) (e2 : r.2.1 = (a : Int)) (n4 : n ≤ 4096) (ab : a ≤ b.length) :
  (let t := finS b 0 (parse b n 33 [] a); if t.2.2 = true then (if t.2.1 = (b.length : Int) then (t.1, (0 : Int)) else ([], 3)) else ([], 3)) = finI b (parse b n 33 [] a) := by
 cases hp : parse b n 33 [] a with
 | none => rfl
 | some q =>
  obtain ⟨o, a'⟩ := q
  obtain ⟨more, h1, h2, h3, h4, h5, h6⟩ := parse_end b n hb 33 [] a o a' hp (by simp) (by simp; omega) ab
  rw [List.nil_append] at h1
  subst h1
  have hpb := packed_bytes o (by omega) h5
  simp only [finS, finI, List.drop_zero]
  by_cases c : (strOfNums (packed o)).toList = (strOfNums b).toList
  ·have hpk := str_inj _ _ hpb hb c
   have ho : packed o = vb 8 (o.length : Int) ++ packTail 33 o := rfl
   have hv := got_vb b (o.length : Int) (packTail 33 o) (by omega) (by have : (128 : Int) ^ 9 = 9223372036854775808 := rfl; rw [this]; omega) (by rw [← ho, hpk]) r hG hr
   rw [e2] at hv
   have hav : a = (vb 8 (o.length : Int)).length := by omega
   have hd : b.drop a = packTail 33 o := by rw [← hpk, ho, hav, List.drop_left]
   have hend := h6 33 (by omega) hd
   subst hend
   rw [if_pos c, List.take_length, if_pos c]
   simp
  ·rw [if_neg c]
   by_cases c2 : (strOfNums (packed o)).toList = (strOfNums (b.take a')).toList
   ·rw [if_pos c2]
    have hne : ¬ ((a' : Int) = (b.length : Int)) := by
     intro e
     have : a' = b.length := by omega
     rw [this, List.take_length] at c2
     exact c c2
    simp [hne]
   ·rw [if_neg c2]; simp

/-- What the reference's parse tells. -/
def unS (b : List Int) (r : Int × Int × Bool) : List Int × Int × Bool := if r.2.2 = true then (if r.1 > 4096 then ([], 0, false) else finS b 0 (parse b r.1.toNat 33 [] r.2.1.toNat)) else ([], 0, false)

theorem unS_tell (b : List Int) (hb : ∀ x ∈ b, 0 ≤ x ∧ x ≤ 255) (hl : ¬ (b.length : Int) > 1048576) (r : Int × Int × Bool) (hG : GotAt b 0 0 r) :
  (if (unS b r).2.2 = true then (if (unS b r).2.1 = (b.length : Int) then ((unS b r).1, (0 : Int)) else ([], 3)) else ([], 3)) = unTell b r := by
 unfold unS unTell
 rw [if_neg hl]
 by_cases hr : r.2.2 = true
 ·rw [if_pos hr, if_pos hr]
  by_cases h4 : r.1 > 4096
  ·rw [if_pos h4, if_pos h4]; rfl
  ·rw [if_neg h4, if_neg h4]
   obtain ⟨n, a, e1, e2, n4, ab⟩ := un_head b hl hb r hG hr h4
   have hf := fin_same b hl hb r hG hr n a e1 e2 n4 ab
   rw [e1, e2, Int.toNat_natCast, Int.toNat_natCast]
   exact hf
 ·rw [if_neg hr, if_neg hr]; rfl

theorem unS_ok (b : List Int) (hb : ∀ x ∈ b, 0 ≤ x ∧ x ≤ 255) (hl : ¬ (b.length : Int) > 1048576) (r : Int × Int × Bool) (hG : GotAt b 0 0 r) : (unS b r).1.length ≤ 4096 ∧ ∀ v ∈ (unS b r).1, okNum v := by
 unfold unS
 by_cases hr : r.2.2 = true
 ·rw [if_pos hr]
  by_cases h4 : r.1 > 4096
  ·rw [if_pos h4]; exact ⟨by simp, fun v hv => by cases hv⟩
  ·rw [if_neg h4]
   obtain ⟨n, a, e1, e2, n4, ab⟩ := un_head b hl hb r hG hr h4
   rw [e1, e2, Int.toNat_natCast, Int.toNat_natCast]
   cases hp : parse b n 33 [] a with
   | none => exact ⟨by simp [finS], fun v hv => by simp [finS] at hv⟩
   | some q =>
    obtain ⟨o, a'⟩ := q
    obtain ⟨more, h1, h2, _, _, h5, _⟩ := parse_end b n hb 33 [] a o a' hp (by simp) (by simp; omega) ab
    rw [List.nil_append] at h1
    subst h1
    simp only [finS]
    split
    ·exact ⟨by simp only; omega, h5⟩
    ·exact ⟨by simp, fun v hv => by cases hv⟩
 ·rw [if_neg hr]; exact ⟨by simp, fun v hv => by cases hv⟩

theorem unTell_length (b : List Int) (r : Int × Int × Bool) (hb : ∀ x ∈ b, 0 ≤ x ∧ x ≤ 255) (hG : GotAt b 0 0 r) : (unTell b r).1.length ≤ 4096 := by
 unfold unTell
 by_cases hl : (b.length : Int) > 1048576
 ·rw [if_pos hl]; simp
 ·rw [if_neg hl]
  by_cases hr : r.2.2 = true
  ·rw [if_pos hr]
   by_cases h4 : r.1 > 4096
   ·rw [if_pos h4]; simp
   ·rw [if_neg h4]
    obtain ⟨n, a, e1, e2, n4, ab⟩ := un_head b hl hb r hG hr h4
    rw [e1, e2, Int.toNat_natCast, Int.toNat_natCast]
    cases hp : parse b n 33 [] a with
    | none => simp [finI]
    | some q =>
     obtain ⟨o, a'⟩ := q
     obtain ⟨more, h1, h2, _⟩ := parse_end b n hb 33 [] a o a' hp (by simp) (by simp; omega) ab
     simp only [finI]
     split
     ·simp only; omega
     ·simp
  ·rw [if_neg hr]; simp


def gapAt (l : List Int) (i : Nat) : Int := if i = 0 then l.getD 0 0 else l.getD i 0 - l.getD (i - 1) 0 - 1
def gapsTo (l : List Int) (n : Nat) : List Int := (List.range n).map (gapAt l)
def risFrom (l : List Int) : Nat → Nat → Bool
 | 0, _ => true
 | d + 1, i => decide (l.getD (i - 1) 0 < l.getD i 0) && risFrom l d (i + 1)

theorem gapsTo_succ (l : List Int) (n : Nat) : gapsTo l (n + 1) = gapsTo l n ++ [gapAt l n] := by simp [gapsTo, List.range_succ]
theorem gapsTo_length (l : List Int) (n : Nat) : (gapsTo l n).length = n := by simp [gapsTo]

theorem ok_at (l : List Int) (hn : ∀ v ∈ l, okNum v) (i : Nat) (hi : i < l.length) : 0 ≤ l.getD i 0 ∧ l.getD i 0 ≤ 4611686018427387903 := by
 have := hn _ (rd_mem l i hi)
 rw [rd_nat] at this
 exact this

theorem risFrom_all (l : List Int) (d : Nat) : ∀ i, risFrom l d i = true → ∀ j, i ≤ j → j < i + d → l.getD (j - 1) 0 < l.getD j 0 := by
 induction d with
 | zero => intro i _ j h1 h2; omega
 | succ d ih =>
  intro i h j h1 h2
  rw [risFrom, Bool.and_eq_true] at h
  by_cases c : j = i
  ·rw [c]; exact of_decide_eq_true h.1
  ·exact ih (i + 1) h.2 j (by omega) (by omega)

theorem gaps_ok (l : List Int) (hn : ∀ v ∈ l, okNum v) (hr : risFrom l (l.length - 1) 1 = true) : ∀ v ∈ gapsTo l l.length, okNum v := by
 intro v hv
 obtain ⟨i, hi, rfl⟩ := List.mem_map.1 hv
 rw [List.mem_range] at hi
 unfold gapAt okNum
 obtain ⟨a0, a1⟩ := ok_at l hn i hi
 by_cases c : i = 0
 ·rw [if_pos c, ← c]; exact ⟨a0, a1⟩
 ·rw [if_neg c]
  obtain ⟨b0, b1⟩ := ok_at l hn (i - 1) (by omega)
  have := risFrom_all l (l.length - 1) 1 hr i (by omega) (by omega)
  omega

theorem spec_ris (l : List Int) (hx : l.length ≤ 4096) (d : Nat) : ∀ i : Nat, 1 ≤ i → (i + d = l.length ∨ (d = 0 ∧ l.length ≤ i)) → Ev (fun k => spec_l03Rising.l0 k l (i : Int)) (risFrom l d i) := by
 induction d with
 | zero =>
  intro i h1 h2
  refine Ev.step (fun k => ?_) (Ev.now _)
  rw [spec_l03Rising.l0, if_neg (by omega)]; rfl
 | succ d ih =>
  intro i h1 h2
  by_cases hi1 : i ≤ 5000
  ·have e1 : wrap64 ((i : Int) + 1) = ((i + 1 : Nat) : Int) := by rw [w64 (by omega) (by omega)]; omega
   have e2 : Aside0 (wrap64 ((i : Int) - 1) = ((i - 1 : Nat) : Int)) := ⟨by rw [w64 (by omega) (by omega)]; omega⟩
   by_cases c : l.getD (i - 1) 0 < l.getD i 0
   ·rw [risFrom, decide_eq_true c, Bool.true_and]
    refine Ev.step (fun k => ?_) (ih (i + 1) (by omega) (by omega))
    rw [spec_l03Rising.l0, if_pos (by omega), if_pos (by omega), e2.out, if_pos (by omega), if_pos (by omega), rd_nat, rd_nat, if_neg (by omega), e1]
   ·rw [risFrom, decide_eq_false c, Bool.false_and]
    refine Ev.step (fun k => ?_) (Ev.now _)
    rw [spec_l03Rising.l0, if_pos (by omega), if_pos (by omega), e2.out, if_pos (by omega), if_pos (by omega), rd_nat, rd_nat, if_pos (by omega)]
  ·omega

theorem spec_gaps (l : List Int) (hx : l.length ≤ 4096) (hn : ∀ v ∈ l, okNum v) (d : Nat) : ∀ i : Nat, i + d = l.length → Ev (fun k => spec_l03Gaps.l0 k l (gapsTo l i) (i : Int)) (gapsTo l l.length) := by
 induction d with
 | zero =>
  intro i h
  obtain rfl : i = l.length := by omega
  refine Ev.step (fun k => ?_) (Ev.now _)
  rw [spec_l03Gaps.l0, if_neg (by omega)]
 | succ d ih =>
  intro i h
  have e1 : Aside0 (wrap64 ((i : Int) + 1) = ((i + 1 : Nat) : Int)) := ⟨by rw [w64 (by omega) (by omega)]; omega⟩
  obtain ⟨a0, a1⟩ := ok_at l hn i (by omega)
  have hl := gapsTo_length l i
  refine Ev.step (fun k => ?_) (ih (i + 1) (by omega))
  rw [gapsTo_succ]
  by_cases c : i = 0
  ·subst c
   rw [spec_l03Gaps.l0, if_pos (by omega), if_pos n0, if_pos (by omega), if_pos (by omega), e1.out]
   have : rd l 0 = l.getD 0 0 := rd_nat l 0
   rw [this, gapAt, if_pos rfl]
  ·obtain ⟨b0, b1⟩ := ok_at l hn (i - 1) (by omega)
   have e2 : Aside0 (wrap64 ((i : Int) - 1) = ((i - 1 : Nat) : Int)) := ⟨by rw [w64 (by omega) (by omega)]; omega⟩
   have e3 : wrap64 (wrap64 (l.getD i 0 - l.getD (i - 1) 0) - 1) = l.getD i 0 - l.getD (i - 1) 0 - 1 := by
    rw [w64 (x := l.getD i 0 - l.getD (i - 1) 0) (by omega) (by omega), w64 (by omega) (by omega)]
   rw [spec_l03Gaps.l0, if_pos (by omega), if_neg (by omega), if_pos (by omega), e2.out, if_pos (by omega), if_pos (by omega), if_pos (by omega), rd_nat, rd_nat, e1.out, e3]
   have : gapAt l i = l.getD i 0 - l.getD (i - 1) 0 - 1 := by unfold gapAt; rw [if_neg c]
   rw [this]

def risTell (l : List Int) : List Int × Int :=
 if (l.length : Int) > 4096 then ([], 2) else if l.all okB then (if risFrom l (l.length - 1) 1 then (packed (gapsTo l l.length), 0) else ([], 17)) else ([], 12)

theorem spec_PackRising_eq (l : List Int) : Ev (fun k => spec_PackRising.f k l) (risTell l) := by
 unfold risTell
 by_cases h : (l.length : Int) > 4096
 ·rw [if_pos h]
  exact Ev.congr (fun k => by unfold spec_PackRising.f; rw [if_pos h]) (Ev.now _)
 ·rw [if_neg h]
  refine Ev.congr (f := fun k => (spec_l03AllNums.f k l).bind fun t => if t = true then ((spec_l03Rising.f k l).bind fun t1 => if t1 = true then ((spec_l03Gaps.f k l).bind fun t2 => (spec_l03Pack.f k t2).bind fun t3 => some (t3, 0)) else some ([], 17)) else some ([], 12)) (fun k => by unfold spec_PackRising.f; rw [if_neg h]) ?_
  refine Ev.bind (allNums_eq l (by omega)) ?_
  by_cases c : l.all okB = true
  ·rw [if_pos c]
   have hn := all_ok l c
   refine Ev.congr (f := fun k => (spec_l03Rising.f k l).bind fun t1 => if t1 = true then ((spec_l03Gaps.f k l).bind fun t2 => (spec_l03Pack.f k t2).bind fun t3 => some (t3, 0)) else some ([], 17)) (fun k => by rw [if_pos c]) ?_
   have hris : Ev (fun k => spec_l03Rising.f k l) (risFrom l (l.length - 1) 1) := spec_ris l (by omega) (l.length - 1) 1 (by omega) (by omega)
   refine Ev.bind hris ?_
   by_cases c2 : risFrom l (l.length - 1) 1 = true
   ·rw [if_pos c2]
    refine Ev.congr (f := fun k => (spec_l03Gaps.f k l).bind fun t2 => (spec_l03Pack.f k t2).bind fun t3 => some (t3, 0)) (fun k => by rw [if_pos c2]) ?_
    have hg : Ev (fun k => spec_l03Gaps.f k l) (gapsTo l l.length) := spec_gaps l (by omega) hn l.length 0 (by omega)
    refine Ev.bind hg (Ev.bind (spec_Pack_eq _ (by rw [gapsTo_length]; omega) (gaps_ok l hn c2)) (Ev.now _))
   ·rw [if_neg c2]
    exact Ev.congr (fun k => by rw [if_neg c2]) (Ev.now _)
  ·rw [if_neg c]
   exact Ev.congr (fun k => by rw [if_neg c]) (Ev.now _)

theorem impl_ris_l1 (l : List Int) (hx : l.length ≤ 4096) (hn : ∀ v ∈ l, okNum v) (d : Nat) : ∀ i : Nat, 1 ≤ i → (i + d = l.length ∨ (d = 0 ∧ l.length = 0)) →
  Ev (fun k => impl_PackRising.l1 k l (gapsTo l (if l.length = 0 then 0 else i)) l (l.length : Int) (if l.length = 0 then 0 else (i : Int))) (if risFrom l d i then packTell (gapsTo l l.length) else ([], 17)) := by
 induction d with
 | zero =>
  intro i h1 h2
  have e : (if l.length = 0 then 0 else i) = l.length := by split <;> omega
  have e' : (if l.length = 0 then (0 : Int) else (i : Int)) = (l.length : Int) := by split <;> omega
  rw [e, e']
  have h : Ev (fun k => (impl_PackInts.f k (gapsTo l l.length)).bind fun b => some (b.1, b.2)) (packTell (gapsTo l l.length)) := Ev.bind (impl_PackInts_eq _) (Ev.now _)
  refine Ev.step (fun k => ?_) h
  rw [impl_PackRising.l1, if_neg (by omega)]
 | succ d ih =>
  intro i h1 h2
  have hne : ¬ (l.length = 0) := by omega
  have ih' := ih (i + 1) (by omega) (by omega)
  rw [if_neg hne, if_neg hne] at ih' ⊢
  have e1 : Aside0 (wrap64 ((i : Int) + 1) = ((i + 1 : Nat) : Int)) := ⟨by rw [w64 (by omega) (by omega)]; omega⟩
  have e2 : Aside0 (wrap64 ((i : Int) - 1) = ((i - 1 : Nat) : Int)) := ⟨by rw [w64 (by omega) (by omega)]; omega⟩
  obtain ⟨a0, a1⟩ := ok_at l hn i (by omega)
  obtain ⟨b0, b1⟩ := ok_at l hn (i - 1) (by omega)
  have hl := gapsTo_length l i
  by_cases c : l.getD (i - 1) 0 < l.getD i 0
  ·rw [risFrom, decide_eq_true c, Bool.true_and]
   refine Ev.step (fun k => ?_) ih'
   have e3 : wrap64 (l.getD i 0 - wrap64 (l.getD (i - 1) 0 + 1)) = gapAt l i := by
    unfold gapAt
    rw [if_neg (by omega), w64 (x := l.getD (i - 1) 0 + 1) (by omega) (by omega), w64 (by omega) (by omega)]; omega
   rw [impl_PackRising.l1, if_pos (by omega), if_pos (by omega), if_pos (by omega), if_pos (by omega), e2.out, if_pos (by omega), if_pos (by omega), rd_nat, rd_nat, if_neg (by omega), if_pos (by omega), e1.out, e3, gapsTo_succ]
  ·rw [risFrom, decide_eq_false c, Bool.false_and]
   refine Ev.step (fun k => ?_) (Ev.now _)
   rw [impl_PackRising.l1, if_pos (by omega), if_pos (by omega), if_pos (by omega), if_pos (by omega), e2.out, if_pos (by omega), if_pos (by omega), rd_nat, rd_nat, if_pos (by omega)]; rfl

theorem impl_ris_start (l : List Int) (hx : l.length ≤ 4096) (hn : ∀ v ∈ l, okNum v) : Ev (fun k => impl_PackRising.l1 k l [] l (l.length : Int) 0) (if risFrom l (l.length - 1) 1 then packTell (gapsTo l l.length) else ([], 17)) := by
 by_cases h0 : l.length = 0
 ·have h := impl_ris_l1 l hx hn (l.length - 1) 1 (by omega) (by omega)
  rw [if_pos h0, if_pos h0] at h
  exact h
 ·have h := impl_ris_l1 l hx hn (l.length - 1) 1 (by omega) (by omega)
  rw [if_neg h0, if_neg h0] at h
  refine Ev.step (fun k => ?_) h
  have e1 : Aside0 (wrap64 ((0 : Int) + 1) = ((1 : Nat) : Int)) := ⟨by rw [w64 (by omega) (by omega)]; rfl⟩
  rw [impl_PackRising.l1, if_pos (by omega), if_pos (by omega), if_pos (by omega), if_neg (by omega), if_pos (by simp), e1.out]
  have : rd l 0 = l.getD 0 0 := rd_nat l 0
  rw [this]; rfl

theorem impl_ris_l0 (l : List Int) (hx : l.length ≤ 4096) (d : Nat) : ∀ i : Nat, i + d = l.length → (∀ j, j < i → okB (l.getD j 0) = true) →
  Ev (fun k => impl_PackRising.l0 k l l (l.length : Int) (i : Int)) (if l.all okB then (if risFrom l (l.length - 1) 1 then packTell (gapsTo l l.length) else ([], 17)) else ([], 12)) := by
 induction d with
 | zero =>
  intro i hi hj
  have hall : l.all okB = true := by
   rw [List.all_eq_true]
   intro x hx
   obtain ⟨j, hj', rfl⟩ := List.getElem_of_mem hx
   have := hj j (by omega)
   rwa [List.getD_eq_getElem?_getD, List.getElem?_eq_getElem hj'] at this
  rw [if_pos hall]
  refine Ev.step (fun k => ?_) (impl_ris_start l hx (all_ok l hall))
  rw [impl_PackRising.l0, if_neg (by omega)]
 | succ d ih =>
  intro i hi hj
  have e1 : Aside0 (wrap64 ((i : Int) + 1) = ((i + 1 : Nat) : Int)) := ⟨by rw [w64 (by omega) (by omega)]; omega⟩
  by_cases c : okB (l.getD i 0) = true
  ·refine Ev.step (fun k => ?_) (ih (i + 1) (by omega) (fun j hj' => by
    by_cases cj : j = i
    ·rw [cj]; exact c
    ·exact hj j (by omega)))
   rw [impl_PackRising.l0, if_pos (by omega), if_pos (by omega), if_pos (by omega), rd_nat, within_num]
   simp only [Option.bind_some]
   rw [if_pos c, e1.out]
  ·have hall : ¬ (l.all okB = true) := by
    intro h
    have := List.all_eq_true.1 h (rd l (i : Int)) (rd_mem l i (by omega))
    rw [rd_nat] at this; exact c this
   rw [if_neg hall]
   refine Ev.step (fun k => ?_) (Ev.now _)
   rw [impl_PackRising.l0, if_pos (by omega), if_pos (by omega), if_pos (by omega), rd_nat, within_num]
   simp only [Option.bind_some]
   rw [if_neg c]

theorem impl_PackRising_eq (l : List Int) : Ev (fun k => impl_PackRising.f k l) (risTell l) := by
 unfold risTell
 by_cases h : (l.length : Int) > 4096
 ·rw [if_pos h]
  exact Ev.congr (fun k => by unfold impl_PackRising.f; rw [if_pos h]) (Ev.now _)
 ·rw [if_neg h]
  have h0 := impl_ris_l0 l (by omega) l.length 0 (by omega) (fun j hj => by omega)
  rw [n0] at h0
  have e : (if l.all okB then (if risFrom l (l.length - 1) 1 then packTell (gapsTo l l.length) else ([], 17)) else ([], 12) : List Int × Int) = (if l.all okB then (if risFrom l (l.length - 1) 1 then (packed (gapsTo l l.length), 0) else ([], 17)) else ([], 12)) := by
   by_cases c : l.all okB = true
   ·rw [if_pos c, if_pos c]
    by_cases c2 : risFrom l (l.length - 1) 1 = true
    ·rw [if_pos c2, if_pos c2]
     have hg := gaps_ok l (all_ok l c) c2
     unfold packTell
     rw [if_neg (by rw [gapsTo_length]; omega), if_pos (List.all_eq_true.2 (fun v hv => (okB_iff v).2 (hg v hv)))]
    ·rw [if_neg c2, if_neg c2]
   ·rw [if_neg c, if_neg c]
  rw [← e]
  exact Ev.congr (fun k => by unfold impl_PackRising.f; rw [if_neg h]) h0

/-- The numbers so far and d gaps more; none: one is too great. -/
def risN (g : List Int) : Nat → List Int → Option (List Int)
 | 0, out => some out
 | d + 1, out => if out.length = 0 then risN g d (out ++ [g.getD out.length 0]) else if g.getD out.length 0 > 4611686018427387902 - out.getD (out.length - 1) 0 then none else risN g d (out ++ [out.getD (out.length - 1) 0 + 1 + g.getD out.length 0])
def risI : Option (List Int) → List Int × Int
 | none => ([], 3)
 | some o => (o, 0)

theorem get_ok (l : List Int) (hn : ∀ v ∈ l, okNum v) (i : Nat) (hi : i < l.length) : 0 ≤ l.getD i 0 ∧ l.getD i 0 ≤ 4611686018427387903 := by
 have := hn _ (rd_mem l i hi)
 rw [rd_nat] at this; exact this

theorem ok_snoc (out : List Int) (v : Int) (h : ∀ x ∈ out, okNum x) (hv : okNum v) : ∀ x ∈ out ++ [v], okNum x := by
 intro x hx
 rcases List.mem_append.1 hx with h1 | h1
 ·exact h x h1
 ·rw [List.mem_singleton] at h1; rw [h1]; exact hv

theorem app_at (out g : List Int) (h : out.length < g.length) : (out ++ g.drop out.length).getD out.length 0 = g.getD out.length 0 := by
 rw [List.getD_eq_getElem?_getD, List.getD_eq_getElem?_getD, List.getElem?_append_right (Nat.le_refl _), Nat.sub_self, List.getElem?_drop]; rfl
theorem app_last (out g : List Int) (h : out.length ≠ 0) : (out ++ g.drop out.length).getD (out.length - 1) 0 = out.getD (out.length - 1) 0 := by
 rw [List.getD_eq_getElem?_getD, List.getD_eq_getElem?_getD, List.getElem?_append_left (by omega)]
theorem app_len (out g : List Int) (h : out.length ≤ g.length) : (out ++ g.drop out.length).length = g.length := by simp; omega
theorem drop_at (g : List Int) (i : Nat) (h : i < g.length) : g.drop i = g.getD i 0 :: g.drop (i + 1) := by
 rw [List.drop_eq_getElem_cons h, List.getD_eq_getElem?_getD, List.getElem?_eq_getElem h]; rfl
theorem app_set (out g : List Int) (h : out.length < g.length) (v : Int) : (out ++ g.drop out.length).set out.length v = (out ++ [v]) ++ g.drop (out ++ [v]).length := by
 rw [drop_at g _ h, List.set_append_right _ _ (Nat.le_refl _), Nat.sub_self, List.set_cons_zero, List.length_append, List.length_singleton, List.append_assoc]; rfl
theorem app_keep (out g : List Int) (h : out.length < g.length) : out ++ g.drop out.length = (out ++ [g.getD out.length 0]) ++ g.drop (out ++ [g.getD out.length 0]).length := by
 rw [drop_at g _ h, List.length_append, List.length_singleton, List.append_assoc]; rfl

theorem impl_r0 (g : List Int) (hg : ∀ v ∈ g, okNum v) (hgl : g.length ≤ 4096) (d : Nat) : ∀ out : List Int, out.length + d = g.length → (∀ v ∈ out, okNum v) →
  Ev (fun k => impl_UnpackRising.l0 k (out ++ g.drop out.length) (g.length : Int) (out.length : Int)) (risI (risN g d out)) := by
 induction d with
 | zero =>
  intro out hl ho
  refine Ev.step (fun k => ?_) (Ev.now _)
  rw [impl_UnpackRising.l0, if_neg (by omega), List.drop_of_length_le (by omega), List.append_nil]; rfl
 | succ d ih =>
  intro out hl ho
  have e1 : Aside0 (wrap64 ((out.length : Int) + 1) = ((out.length + 1 : Nat) : Int)) := ⟨by rw [w64 (by omega) (by omega)]; omega⟩
  have c1 : (out.length : Int) < (g.length : Int) := by omega
  obtain ⟨x0, x1⟩ := get_ok g hg out.length (by omega)
  have hlen := app_len out g (by omega)
  have hat := app_at out g (by omega)
  rw [risN]
  by_cases hz : out.length = 0
  ·rw [if_pos hz]
   have h' := ih (out ++ [g.getD out.length 0]) (by simp; omega) (ok_snoc _ _ ho ⟨x0, x1⟩)
   rw [← app_keep out g (by omega), List.length_append, List.length_singleton] at h'
   refine Ev.step (fun k => ?_) h'
   rw [impl_UnpackRising.l0, if_pos c1, if_neg (by omega), e1.out]
  ·rw [if_neg hz]
   obtain ⟨y0, y1⟩ := get_ok out ho (out.length - 1) (by omega)
   have e2 : Aside0 (wrap64 ((out.length : Int) - 1) = ((out.length - 1 : Nat) : Int)) := ⟨by rw [w64 (by omega) (by omega)]; omega⟩
   have hla := app_last out g hz
   have hset := fun v => app_set out g (by omega) v
   generalize hx : g.getD out.length 0 = x at *
   generalize hy : out.getD (out.length - 1) 0 = y at *
   have e3 : Aside0 (wrap64 (wrap64 (4611686018427387903 - y) - 1) = 4611686018427387902 - y) := ⟨by rw [w64 (x := 4611686018427387903 - y) (by omega) (by omega), w64 (by omega) (by omega)]; omega⟩
   have c2 : (out.length : Int) < ((out ++ g.drop out.length).length : Int) := by rw [hlen]; exact c1
   have c3 : ((out.length - 1 : Nat) : Int) < ((out ++ g.drop out.length).length : Int) := by rw [hlen]; omega
   by_cases c : x > 4611686018427387902 - y
   ·rw [if_pos c]
    refine Ev.step (fun k => ?_) (Ev.now _)
    rw [impl_UnpackRising.l0, if_pos c1, if_pos (by omega), if_pos (by omega), if_pos c2, e2.out, if_pos (by omega), if_pos c3, rd_nat, rd_nat, hat, hla, e3.out, if_pos c]; rfl
   ·rw [if_neg c]
    have e4 : Aside0 (wrap64 (x + wrap64 (y + 1)) = y + 1 + x) := ⟨by rw [w64 (x := y + 1) (by omega) (by omega), w64 (by omega) (by omega)]; omega⟩
    have h' := ih (out ++ [y + 1 + x]) (by simp; omega) (ok_snoc _ _ ho ⟨by omega, by omega⟩)
    rw [← hset, List.length_append, List.length_singleton] at h'
    refine Ev.step (fun k => ?_) h'
    rw [impl_UnpackRising.l0, if_pos c1, if_pos (by omega), if_pos (by omega), if_pos c2, e2.out, if_pos (by omega), if_pos c3, rd_nat, rd_nat, hat, hla, e3.out, if_neg c, Int.toNat_natCast, e4.out, e1.out]

theorem unTell_ok (b : List Int) (hb : ∀ x ∈ b, 0 ≤ x ∧ x ≤ 255) (r : Int × Int × Bool) (hG : GotAt b 0 0 r) : ∀ v ∈ (unTell b r).1, okNum v := by
 by_cases hl : (b.length : Int) > 1048576
 ·intro v hv; unfold unTell at hv; rw [if_pos hl] at hv; cases hv
 ·intro v hv
  rw [← unS_tell b hb hl r hG] at hv
  split at hv
  ·split at hv
   ·exact (unS_ok b hb hl r hG).2 v hv
   ·cases hv
  ·cases hv

def bitAt (ys : List Int) (n : Nat) : Int := bitOf (ys.getD (n / 8) 0) (n % 8)
theorem p8 (j : Nat) (h : j ≤ 8) : (2 : Int) ^ j = 1 ∧ j = 0 ∨ (2 : Int) ^ j = 2 ∧ j = 1 ∨ (2 : Int) ^ j = 4 ∧ j = 2 ∨ (2 : Int) ^ j = 8 ∧ j = 3 ∨ (2 : Int) ^ j = 16 ∧ j = 4 ∨ (2 : Int) ^ j = 32 ∧ j = 5 ∨ (2 : Int) ^ j = 64 ∧ j = 6 ∨ (2 : Int) ^ j = 128 ∧ j = 7 ∨ (2 : Int) ^ j = 256 ∧ j = 8 := by
 have : j = 0 ∨ j = 1 ∨ j = 2 ∨ j = 3 ∨ j = 4 ∨ j = 5 ∨ j = 6 ∨ j = 7 ∨ j = 8 := by omega
 rcases this with rfl | rfl | rfl | rfl | rfl | rfl | rfl | rfl | rfl <;> simp
theorem bit_byte (y b : Int) (j i : Nat) (hj : j ≤ 7) (hi : i ≤ 7) (h0 : 0 ≤ y) (h1 : y < 2 ^ j) (hb : b = 0 ∨ b = 1) : bitOf (y + b * 2 ^ j) i = if i = j then b else bitOf y i := by
 unfold bitOf
 rcases p8 j (by omega) with ⟨e, rfl⟩ | ⟨e, rfl⟩ | ⟨e, rfl⟩ | ⟨e, rfl⟩ | ⟨e, rfl⟩ | ⟨e, rfl⟩ | ⟨e, rfl⟩ | ⟨e, rfl⟩ | ⟨e, rfl⟩ <;> rw [e] at h1 ⊢ <;> clear e <;>
 rcases p8 i (by omega) with ⟨f, rfl⟩ | ⟨f, rfl⟩ | ⟨f, rfl⟩ | ⟨f, rfl⟩ | ⟨f, rfl⟩ | ⟨f, rfl⟩ | ⟨f, rfl⟩ | ⟨f, rfl⟩ | ⟨f, rfl⟩ <;> rw [f] <;> clear f <;> rcases hb with rfl | rfl <;> simp <;> omega
theorem bitAt_add (ys : List Int) (n m : Nat) (b : Int) (h : Inv ys n) (hn : n / 8 < ys.length) (hb : b = 0 ∨ b = 1) : bitAt (addBit ys n b) m = if m = n then b else bitAt ys m := by
 unfold bitAt addBit
 by_cases c : m / 8 = n / 8
 ·rw [c, List.getD_eq_getElem?_getD, List.getElem?_set_self hn]
  obtain ⟨y0, y1⟩ := h (n / 8) hn
  have e : min 8 (n - 8 * (n / 8)) = n % 8 := by omega
  rw [e] at y1
  show bitOf (ys.getD (n / 8) 0 + b * 2 ^ (n % 8)) (m % 8) = _
  rw [bit_byte _ b (n % 8) (m % 8) (by omega) (by omega) y0 y1 hb]
  by_cases d : m = n
  ·rw [if_pos d, if_pos (by omega)]
  ·rw [if_neg d, if_neg (by omega)]
 ·rw [List.getD_eq_getElem?_getD, List.getElem?_set_ne (by omega), ← List.getD_eq_getElem?_getD, if_neg (by omega)]
theorem bit01 (v : Int) (k : Nat) : bitOf v k = 0 ∨ bitOf v k = 1 := by have := bitOf_01 v k; omega
theorem bitAt_num (v : Int) (d : Nat) : ∀ (ys : List Int) (n k m : Nat), Inv ys n → n + d ≤ 8 * ys.length → bitAt (addNum d ys n v k) m = if n ≤ m ∧ m < n + d then bitOf v (k + (m - n)) else bitAt ys m := by
 induction d with
 | zero => intro ys n k m _ _; rw [addNum, if_neg (by omega)]
 | succ d ih =>
  intro ys n k m h hn
  have h01 := bitOf_01 v k
  have hI := Inv_bit ys n (bitOf v k) h (by omega) h01.1 h01.2
  rw [addNum, ih _ _ _ m hI (by rw [addBit_length]; omega), bitAt_add ys n m _ h (by omega) (bit01 v k)]
  by_cases c : m = n
  ·subst c
   rw [if_neg (by omega), if_pos rfl, if_pos (by omega), Nat.sub_self, Nat.add_zero]
  ·rw [if_neg c]
   by_cases c2 : n + 1 ≤ m ∧ m < n + 1 + d
   ·rw [if_pos c2, if_pos (by omega)]; congr 1; omega
   ·rw [if_neg c2, if_neg (by omega)]
theorem bitAt_list (w : Nat) (l : List Int) : ∀ (ys : List Int) (n m : Nat), Inv ys n → n + l.length * w ≤ 8 * ys.length → m < n → bitAt (addList w l ys n) m = bitAt ys m := by
 induction l with
 | nil => intro ys n m _ _ _; rfl
 | cons v l ih =>
  intro ys n m h hn hm
  have e : (v :: l).length * w = l.length * w + w := by rw [List.length_cons, Nat.succ_mul]
  have hI := Inv_num v w ys n 0 h (by omega)
  rw [addList, ih _ _ m hI (by rw [addNum_length]; omega) (by omega), bitAt_num v w ys n 0 m h (by omega), if_neg (by omega)]
theorem bits_same (w : Nat) (l : List Int) : ∀ (r : List Int) (ys zs : List Int) (n : Nat), l.length = r.length → Inv ys n → Inv zs n → n + l.length * w ≤ 8 * ys.length → n + l.length * w ≤ 8 * zs.length → addList w l ys n = addList w r zs n →
  ∀ i, i < l.length → ∀ t, t < w → bitOf (l.getD i 0) t = bitOf (r.getD i 0) t := by
 induction l with
 | nil => intro r ys zs n _ _ _ _ _ _ i hi; simp at hi
 | cons v l ih =>
  intro r ys zs n hlen hy hz hny hnz heq i hi t ht
  cases r with
  | nil => simp at hlen
  | cons u r =>
   have e : (v :: l).length * w = l.length * w + w := by rw [List.length_cons, Nat.succ_mul]
   have hl : l.length = r.length := by simpa using hlen
   have hIy := Inv_num v w ys n 0 hy (by omega)
   have hIz := Inv_num u w zs n 0 hz (by omega)
   rw [addList, addList] at heq
   cases i with
   | zero =>
    have a1 := bitAt_list w l (addNum w ys n v 0) (n + w) (n + t) hIy (by rw [addNum_length]; omega) (by omega)
    have a2 := bitAt_list w r (addNum w zs n u 0) (n + w) (n + t) hIz (by rw [addNum_length, ← hl]; omega) (by omega)
    rw [heq, a2, bitAt_num v w ys n 0 _ hy (by omega), bitAt_num u w zs n 0 _ hz (by omega), if_pos (by omega), if_pos (by omega)] at a1
    have e2 : 0 + (n + t - n) = t := by omega
    rw [e2] at a1
    exact a1.symm
   | succ i =>
    exact ih r _ _ (n + w) hl hIy hIz (by rw [addNum_length]; omega) (by rw [addNum_length]; omega) heq i (by simpa using hi) t ht
theorem bits_num (w : Nat) : ∀ (v u : Int), 0 ≤ v → 0 ≤ u → v < 2 ^ w → u < 2 ^ w → (∀ t, t < w → bitOf v t = bitOf u t) → v = u := by
 induction w with
 | zero => intro v u h0 h1 h2 h3 _; simp at h2 h3; omega
 | succ w ih =>
  intro v u h0 h1 h2 h3 h
  have e : (2 : Int) ^ (w + 1) = 2 ^ w * 2 := Int.pow_succ _ _
  have hz := h 0 (by omega)
  unfold bitOf at hz
  rw [Int.pow_zero, Int.ediv_one, Int.ediv_one] at hz
  have hs : ∀ (x : Int) (t : Nat), bitOf (x / 2) t = bitOf x (t + 1) := by
   intro x t
   unfold bitOf
   rw [Int.pow_succ, Int.mul_comm, ← Int.ediv_ediv_of_nonneg (show (0 : Int) ≤ 2 by decide)]
  have := ih (v / 2) (u / 2) (by omega) (by omega) (by omega) (by omega) (fun t ht => by rw [hs, hs]; exact h (t + 1) (by omega))
  omega
theorem wid_ge (l : List Int) : ∀ (a : Nat) , a ≤ l.foldl (fun w v => max w (Lib.bitLen v.toNat)) a := by
 induction l with
 | nil => intro a; exact Nat.le_refl _
 | cons v l ih => intro a; exact Nat.le_trans (Nat.le_max_left _ _) (ih _)
theorem wid_mem (l : List Int) : ∀ (a : Nat) (v : Int), v ∈ l → Lib.bitLen v.toNat ≤ l.foldl (fun w v => max w (Lib.bitLen v.toNat)) a := by
 induction l with
 | nil => intro a v h; cases h
 | cons u l ih =>
  intro a v h
  rcases List.mem_cons.1 h with rfl | h
  ·exact Nat.le_trans (Nat.le_max_right a _) (wid_ge l _)
  ·exact ih _ v h
theorem lt_bitLen (v : Int) (hv : okNum v) (w : Nat) (h : Lib.bitLen v.toNat ≤ w) : v < 2 ^ w := by
 by_cases hw : w ≤ 62
 ·have := (bitLen_gt v hv w hw)
  have q := q2pos w
  by_cases c : v < 2 ^ w
  ·exact c
  ·exfalso
   have : v / 2 ^ w > 0 := by
    have := (Int.le_ediv_iff_mul_le (c := 2 ^ w) (a := 1) (b := v) q).2 (by omega)
    omega
   have := (bitLen_gt v hv w hw).1 this
   omega
 ·have h62 := q2le 62 w (by omega)
  have e : (2 : Int) ^ 62 = 4611686018427387904 := by decide
  have := hv.2
  omega
theorem blk_inj (x y : List Int) (hx : ∀ v ∈ x, okNum v) (hy : ∀ v ∈ y, okNum v) (hl : x.length = y.length) (hw : wid x = wid y) (h : blk x = blk y) : x = y := by
 have hb : ∀ i, i < x.length → ∀ t, t < wid x → bitOf (x.getD i 0) t = bitOf (y.getD i 0) t := by
  unfold blk at h
  rw [← hl, ← hw] at h
  refine bits_same (wid x) x y _ _ 0 hl (Inv_zeros _) (Inv_zeros _) ?_ ?_ h
  ·simp [zeros]; omega
  ·simp [zeros]; omega
 refine List.ext_getElem hl fun i h1 h2 => ?_
 have hvx := hx x[i] (List.getElem_mem h1)
 have hvy := hy y[i] (List.getElem_mem h2)
 have lx := lt_bitLen _ hvx (wid x) (wid_mem x 0 _ (List.getElem_mem h1))
 have ly := lt_bitLen _ hvy (wid x) (by rw [hw]; exact wid_mem y 0 _ (List.getElem_mem h2))
 refine bits_num (wid x) _ _ hvx.1 hvy.1 lx ly fun t ht => ?_
 have := hb i h1 t ht
 rw [List.getD_eq_getElem?_getD, List.getD_eq_getElem?_getD, List.getElem?_eq_getElem h1, List.getElem?_eq_getElem h2] at this
 exact this
theorem tail_inj (d : Nat) : ∀ (x y t : List Int), (∀ v ∈ x, okNum v) → (∀ v ∈ y, okNum v) → x.length = y.length → x.length ≤ 128 * d → packTail d x ++ t = packTail d y → x = y ∧ t = [] := by
 induction d with
 | zero =>
  intro x y t _ _ hl h0 h
  have hx : x = [] := List.length_eq_zero_iff.1 (by omega)
  have hy : y = [] := List.length_eq_zero_iff.1 (by omega)
  subst hx; subst hy
  exact ⟨rfl, by simpa [packTail] using h⟩
 | succ d ih =>
  intro x y t hx hy hl h0 h
  by_cases c : x.length = 0
  ·have ex : x = [] := List.length_eq_zero_iff.1 c
   have ey : y = [] := List.length_eq_zero_iff.1 (by omega)
   subst ex; subst ey
   exact ⟨rfl, by simpa [packTail] using h⟩
  ·rw [packTail, if_neg c, packTail, if_neg (by omega), List.cons_append] at h
   obtain ⟨h1, h2⟩ := List.cons.inj h
   have hw : wid (x.take 128) = wid (y.take 128) := by omega
   have hlt : (x.take 128).length = (y.take 128).length := by simp only [List.length_take]; omega
   have hbl : (blk (x.take 128)).length = (blk (y.take 128)).length := by rw [blk_length, blk_length, hw, hlt]
   rw [List.append_assoc] at h2
   obtain ⟨h3, h4⟩ := List.append_inj h2 hbl
   have e1 := blk_inj _ _ (fun v hv => hx v (List.mem_of_mem_take hv)) (fun v hv => hy v (List.mem_of_mem_take hv)) hlt hw h3
   obtain ⟨e2, e3⟩ := ih (x.drop 128) (y.drop 128) t (fun v hv => hx v (List.mem_of_mem_drop hv)) (fun v hv => hy v (List.mem_of_mem_drop hv)) (by simp only [List.length_drop]; omega) (by simp only [List.length_drop]; omega) h4
   exact ⟨by rw [← List.take_append_drop 128 x, ← List.take_append_drop 128 y, e1, e2], e3⟩
theorem vb_inj (d : Nat) : ∀ (a c : Int), 0 ≤ a → 0 ≤ c → a < 128 ^ (d + 1) → c < 128 ^ (d + 1) → vb d a = vb d c → a = c := by
 induction d with
 | zero => intro a c _ _ _ _ h; simp only [vb, List.cons.injEq, and_true] at h; exact h
 | succ d ih =>
  intro a c a0 c0 a1 c1 h
  have es : (128 : Int) ^ (d + 1 + 1) = 128 ^ (d + 1) * 128 := Int.pow_succ _ _
  rw [es] at a1 c1
  unfold vb at h
  by_cases ca : a < 128
  ·by_cases cc : c < 128
   ·rw [if_pos ca, if_pos cc] at h; exact (List.cons.inj h).1
   ·rw [if_pos ca, if_neg cc] at h
    have := (List.cons.inj h).1
    omega
  ·by_cases cc : c < 128
   ·rw [if_neg ca, if_pos cc] at h
    have := (List.cons.inj h).1
    omega
   ·rw [if_neg ca, if_neg cc] at h
    obtain ⟨h1, h2⟩ := List.cons.inj h
    have := ih (a / 128) (c / 128) (by omega) (by omega) (by omega) (by omega) h2
    omega
theorem vb_pre (a c : Int) (s t : List Int) (a0 : 0 ≤ a) (c0 : 0 ≤ c) (a1 : a < 128 ^ 9) (c1 : c < 128 ^ 9) (h : vb 8 a ++ s = vb 8 c ++ t) : a = c ∧ s = t := by
 obtain ⟨p1, p2⟩ := vb_shape 8 a a0 a1
 obtain ⟨q1, q2⟩ := vb_shape 8 c c0 c1
 have la := (vb_length 8 a).1
 have lc := (vb_length 8 c).1
 have g : ∀ j, j < (vb 8 a).length → j < (vb 8 c).length → (vb 8 a).getD j 0 = (vb 8 c).getD j 0 := by
  intro j j1 j2
  have h1 : (vb 8 a ++ s).getD j 0 = (vb 8 a).getD j 0 := by rw [List.getD_eq_getElem?_getD, List.getD_eq_getElem?_getD, List.getElem?_append_left j1]
  have h2 : (vb 8 c ++ t).getD j 0 = (vb 8 c).getD j 0 := by rw [List.getD_eq_getElem?_getD, List.getD_eq_getElem?_getD, List.getElem?_append_left j2]
  rw [← h1, h, h2]
 have e : (vb 8 a).length = (vb 8 c).length := by
  rcases Nat.lt_trichotomy (vb 8 a).length (vb 8 c).length with l | l | l
  ·exact absurd (by rw [← g _ (by omega) (by omega)]; exact p2) (q1 ((vb 8 a).length - 1) (by omega))
  ·exact l
  ·exact absurd (by rw [g _ (by omega) (by omega)]; exact q2) (p1 ((vb 8 c).length - 1) (by omega))
 obtain ⟨h1, h2⟩ := List.append_inj h e
 exact ⟨vb_inj 8 a c a0 c0 a1 c1 h1, h2⟩
theorem packed_pre (x y t : List Int) (hx : ∀ v ∈ x, okNum v) (hy : ∀ v ∈ y, okNum v) (lx : x.length ≤ 4096) (ly : y.length ≤ 4096) (h : packed x ++ t = packed y) : x = y ∧ t = [] := by
 unfold packed at h
 rw [List.append_assoc] at h
 have h9 : (128 : Int) ^ 9 = 9223372036854775808 := by decide
 obtain ⟨h1, h2⟩ := vb_pre _ _ _ _ (by omega) (by omega) (by rw [h9]; omega) (by rw [h9]; omega) h
 exact tail_inj 33 x y t hx hy (by omega) (by omega) h2
theorem bitAt_all (w : Nat) (l : List Int) : ∀ (ys : List Int) (n : Nat), Inv ys n → n + l.length * w ≤ 8 * ys.length → ∀ i, i < l.length → ∀ t, t < w → bitAt (addList w l ys n) (n + i * w + t) = bitOf (l.getD i 0) t := by
 induction l with
 | nil => intro ys n _ _ i hi; simp at hi
 | cons v l ih =>
  intro ys n hy hny i hi t ht
  have e : (v :: l).length * w = l.length * w + w := by rw [List.length_cons, Nat.succ_mul]
  have hIy := Inv_num v w ys n 0 hy (by omega)
  rw [addList]
  cases i with
  | zero =>
   rw [Nat.zero_mul, Nat.add_zero, bitAt_list w l _ (n + w) (n + t) hIy (by rw [addNum_length]; omega) (by omega), bitAt_num v w ys n 0 _ hy (by omega), if_pos (by omega)]
   have e2 : 0 + (n + t - n) = t := by omega
   rw [e2]; rfl
  | succ i =>
   have := ih (addNum w ys n v 0) (n + w) hIy (by rw [addNum_length]; omega) i (by simpa using hi) t ht
   have e3 : n + (i + 1) * w + t = n + w + i * w + t := by rw [Nat.succ_mul]; omega
   rw [e3, List.getD_cons_succ]; exact this
theorem bitAt_blk (b : List Int) (i t : Nat) (hi : i < b.length) (ht : t < wid b) : bitAt (blk b) (i * wid b + t) = bitOf (b.getD i 0) t := by
 have := bitAt_all (wid b) b (zeros ((b.length * wid b + 7) / 8)) 0 (Inv_zeros _) (by simp [zeros]; omega) i hi t ht
 rw [Nat.zero_add] at this
 exact this
theorem mod_succ (x : Int) (j : Nat) : x % 2 ^ (j + 1) = x % 2 ^ j + bitOf x j * 2 ^ j := by
 unfold bitOf
 have q := q2pos j
 have e : (2 : Int) ^ (j + 1) = 2 ^ j * 2 := Int.pow_succ _ _
 have a := Int.emod_add_mul_ediv x (2 ^ j)
 have b := Int.emod_add_mul_ediv (x / 2 ^ j) 2
 have c := Int.emod_add_mul_ediv x (2 ^ (j + 1))
 have d : x / 2 ^ (j + 1) = x / 2 ^ j / 2 := by rw [e, Int.ediv_ediv_of_nonneg (by omega)]
 rw [d] at c
 generalize x / 2 ^ j = u at *
 generalize u / 2 = z at *
 have f : (2 : Int) ^ (j + 1) * z = 2 ^ j * (2 * z) := by rw [e, Int.mul_assoc]
 have g : (2 : Int) ^ j * u = 2 ^ j * (u % 2) + 2 ^ j * (2 * z) := by rw [← Int.mul_add, b]
 rw [f] at c
 rw [g] at a
 rw [Int.mul_comm (u % 2)]
 omega
theorem numFrom_is (b : List Int) (a p : Nat) (x : Int) (d : Nat) : ∀ j, (∀ t, j ≤ t → t < j + d → bitOf (b.getD (a + (p + t) / 8) 0) ((p + t) % 8) = bitOf x t) → numFrom b a p d j (x % 2 ^ j) = x % 2 ^ (j + d) := by
 induction d with
 | zero => intro j _; rfl
 | succ d ih =>
  intro j h
  rw [numFrom, h j (Nat.le_refl _) (by omega), ← mod_succ, ih (j + 1) (fun t t1 t2 => h t (by omega) (by omega))]
  congr 2; omega
theorem drop_getD (b r : List Int) (a j : Nat) (h : b.drop a = r) (hj : j < r.length) : b.getD (a + j) 0 = r.getD j 0 := by
 rw [← h, List.getD_eq_getElem?_getD, List.getD_eq_getElem?_getD, List.getElem?_drop]
theorem nums_blk (b : List Int) (a : Nat) (N rest : List Int) (hN : ∀ v ∈ N, okNum v) (h : b.drop a = blk N ++ rest) (d : Nat) : ∀ i, i + d = N.length → nums b a (wid N) d i = N.drop i := by
 have hl := blk_length N
 induction d with
 | zero => intro i hi; rw [nums, List.drop_of_length_le (by omega)]
 | succ d ih =>
  intro i hi
  have hlt : i < N.length := by omega
  have hok := hN N[i] (List.getElem_mem hlt)
  have hmul : i * wid N + wid N ≤ N.length * wid N := by rw [← Nat.succ_mul]; exact Nat.mul_le_mul_right _ (by omega)
  have hnum : numFrom b a (i * wid N) (wid N) 0 0 = N[i] := by
   have hb : ∀ t, 0 ≤ t → t < 0 + wid N → bitOf (b.getD (a + (i * wid N + t) / 8) 0) ((i * wid N + t) % 8) = bitOf N[i] t := by
    intro t _ ht
    have hk : (i * wid N + t) / 8 < (blk N).length := by omega
    have e1 : b.getD (a + (i * wid N + t) / 8) 0 = (blk N).getD ((i * wid N + t) / 8) 0 := by
     rw [drop_getD b (blk N ++ rest) a _ h (by rw [List.length_append]; omega), List.getD_eq_getElem?_getD, List.getD_eq_getElem?_getD, List.getElem?_append_left hk]
    have e2 := bitAt_blk N i t hlt (by omega)
    unfold bitAt at e2
    rw [e1, e2, List.getD_eq_getElem?_getD, List.getElem?_eq_getElem hlt]; rfl
   have := numFrom_is b a (i * wid N) N[i] (wid N) 0 hb
   rw [Nat.zero_add] at this
   have z : N[i] % 2 ^ 0 = 0 := by rw [Int.pow_zero]; exact Int.emod_one _
   rw [z] at this
   rw [this]
   exact Int.emod_eq_of_lt hok.1 (lt_bitLen _ hok (wid N) (wid_mem N 0 _ (List.getElem_mem hlt)))
  rw [nums, hnum, ih (i + 1) (by omega), ← List.drop_eq_getElem_cons hlt]
theorem parse_ok (b : List Int) (n : Nat) (d : Nat) : ∀ (out more : List Int) (a : Nat), (∀ v ∈ more, okNum v) → out.length + more.length = n → more.length ≤ 128 * d → b.drop a = packTail d more → a ≤ b.length → parse b n d out a = some (out ++ more, b.length) := by
 induction d with
 | zero =>
  intro out more a _ h1 h2 h3 h4
  have e : more = [] := List.length_eq_zero_iff.1 (by omega)
  subst e
  have := congrArg List.length h3
  simp [packTail] at this
  rw [parse, List.append_nil]
  congr 2
  omega
 | succ d ih =>
  intro out more a hm h1 h2 h3 h4
  by_cases c : more.length = 0
  ·have e : more = [] := List.length_eq_zero_iff.1 c
   subst e
   have := congrArg List.length h3
   simp [packTail] at this
   rw [parse, if_neg (by simp at h1; omega), List.append_nil]
   congr 2
   omega
  ·rw [packTail, if_neg c] at h3
   obtain ⟨f1, f2⟩ := drop_cons h3
   have hlen := congrArg List.length h3
   simp only [List.length_drop, List.length_cons, List.length_append, blk_length] at hlen
   have hw62 := wid_62 (more.take 128) (fun v hv => hm v (List.mem_of_mem_take hv))
   have hNl : (more.take 128).length = min 128 (n - out.length) := by rw [List.length_take]; omega
   have hnum := nums_blk b (a + 1) (more.take 128) (packTail d (more.drop 128)) (fun v hv => hm v (List.mem_of_mem_take hv)) f2 (more.take 128).length 0 (by omega)
   rw [List.drop_zero, hNl] at hnum
   rw [hNl] at hlen
   rw [parse, if_pos (by omega), if_pos ⟨by omega, by rw [f1]; omega⟩, f1, Int.toNat_natCast, if_pos (by omega), hnum]
   have := ih (out ++ more.take 128) (more.drop 128) (a + 1 + (min 128 (n - out.length) * wid (more.take 128) + 7) / 8) (fun v hv => hm v (List.mem_of_mem_drop hv)) (by rw [List.length_append, hNl, List.length_drop]; omega) (by rw [List.length_drop]; omega) ?_ (by omega)
   ·rw [this, List.append_assoc, List.take_append_drop]
   ·rw [← List.drop_drop, f2]
    have hb := blk_length (more.take 128)
    rw [hNl] at hb
    rw [← hb, List.drop_left]

theorem gi_vb (b : List Int) (at' : Nat) (hl : b.length ≤ 1048576) (d : Nat) : ∀ (n : Nat) (v a : Int) (t : List Int), n + d = 8 → b.drop (at' + n) = vb d a ++ t → 0 ≤ a → a < 128 ^ (d + 1) → (n = 0 ∨ 0 < a) → 0 ≤ v → v < 128 ^ n → v + a * 128 ^ n ≤ 4611686018427387903 →
  ∀ k, 2 * d + 2 ≤ k → impl_GetInt.l0 k b at' v n = some (v + a * 128 ^ n, ((at' + n + (vb d a).length : Nat) : Int), 0) := by
 have small : ∀ (n : Nat) (v a : Int) (t : List Int), n ≤ 8 → b.drop (at' + n) = a :: t → 0 ≤ a → a < 128 → (n = 0 ∨ 0 < a) → 0 ≤ v → v < 128 ^ n → v + a * 128 ^ n ≤ 4611686018427387903 → ∀ k, 2 ≤ k → impl_GetInt.l0 k b at' v n = some (v + a * 128 ^ n, ((at' + n + 1 : Nat) : Int), 0) := by
  intro n v a t hn hd h0 h1 hz hv0 hv1 hm k hk
  obtain ⟨m, rfl⟩ : ∃ m, k = m + 2 := ⟨k - 2, by omega⟩
  obtain ⟨f1, f2⟩ := drop_cons hd
  have hin : at' + n < b.length := by
   have := congrArg List.length hd
   simp at this
   omega
  obtain ⟨p0, p1, p2⟩ := pw n hn
  have e := stepI b at' n v a (128 ^ n) hl hin hn (by rw [rd_nat]; exact f1) h0 (by omega) p0 p1 ⟨p2⟩ ⟨shl_at _ n hn (by omega) (by omega)⟩ hv0 hv1 m
  have ea : a % 128 = a := Int.emod_eq_of_lt h0 h1
  rw [ea] at e
  have hq : 0 ≤ a * 128 ^ n := Int.mul_nonneg h0 (by omega)
  rw [e, if_pos h1, if_neg (by omega), if_neg (by omega)]
  by_cases c : a = 0
  ·rw [if_pos c, if_neg (by omega)]
  ·rw [if_neg c]
 induction d with
 | zero =>
  intro n v a t hn hd h0 h1 hz hv0 hv1 hm k hk
  simp at h1
  exact small n v a t (by omega) hd h0 h1 hz hv0 hv1 hm k (by omega)
 | succ d ih =>
  intro n v a t hn hd h0 h1 hz hv0 hv1 hm k hk
  have es : (128 : Int) ^ (d + 1 + 1) = 128 ^ (d + 1) * 128 := Int.pow_succ _ _
  rw [es] at h1
  by_cases c : a < 128
  ·have ev : vb (d + 1) a = [a] := by rw [vb, if_pos c]
   rw [ev] at hd ⊢
   exact small n v a t (by omega) hd h0 c hz hv0 hv1 hm k (by omega)
  ·have ev : vb (d + 1) a = (128 + a % 128) :: vb d (a / 128) := by rw [vb, if_neg c]
   rw [ev] at hd ⊢
   rw [List.cons_append] at hd
   obtain ⟨f1, f2⟩ := drop_cons hd
   have hin : at' + n < b.length := by
    have := congrArg List.length hd
    simp at this
    omega
   obtain ⟨p0, p1, p2⟩ := pw n (by omega)
   have es2 : (128 : Int) ^ (n + 1) = 128 ^ n * 128 := Int.pow_succ _ _
   obtain ⟨m, rfl⟩ : ∃ m, k = m + 2 := ⟨k - 2, by omega⟩
   have e := stepI b at' n v (128 + a % 128) (128 ^ n) hl hin (by omega) (by rw [rd_nat]; exact f1) (by omega) (by omega) p0 p1 ⟨p2⟩ ⟨shl_at _ n (by omega) (by omega) (by omega)⟩ hv0 hv1 m
   have ea : (128 + a % 128) % 128 = a % 128 := by omega
   rw [ea] at e
   have h127 : a % 128 * 128 ^ n ≤ 127 * 128 ^ n := Int.mul_le_mul_of_nonneg_right (by omega) (by omega)
   have hq0 : 0 ≤ a % 128 * 128 ^ n := Int.mul_nonneg (by omega) (by omega)
   have key : v + a % 128 * 128 ^ n + a / 128 * 128 ^ (n + 1) = v + a * 128 ^ n := by
    rw [es2, Int.mul_comm (128 ^ n) 128, ← Int.mul_assoc, Int.add_assoc, ← Int.add_mul]
    congr 2
    omega
   have := ih (n + 1) (v + a % 128 * 128 ^ n) (a / 128) t (by omega) (by rw [← Nat.add_assoc]; exact f2) (by omega) (by omega) (.inr (by omega)) (by omega) (by rw [es2]; omega) (by rw [key]; exact hm) m (by omega)
   rw [e, if_neg (by omega), this, key, List.length_cons]
   congr 3
   omega
theorem get_vb (b : List Int) (at' : Nat) (hl : b.length ≤ 1048576) (hat : at' ≤ b.length) (a : Int) (t : List Int) (hd : b.drop at' = vb 8 a ++ t) (ha : okNum a) : Ev (fun k => impl_GetInt.f k b (at' : Int)) (a, ((at' + (vb 8 a).length : Nat) : Int), 0) := by
 refine ⟨20, fun k hk => ?_⟩
 have h9 : (128 : Int) ^ (8 + 1) = 9223372036854775808 := by decide
 have h := gi_vb b at' hl 8 0 0 a t (by omega) hd ha.1 (by rw [h9]; have := ha.2; omega) (.inl rfl) (by omega) (by decide) (by rw [Int.pow_zero, Int.mul_one]; have := ha.2; omega) k (by omega)
 show impl_GetInt.f k b (at' : Int) = _
 unfold impl_GetInt.f impl_within.f
 rw [if_neg (by omega), if_pos (by omega), decide_eq_true (by omega)]
 simp only [Option.bind_some, if_true]
 rw [Int.pow_zero, Int.mul_one, Int.zero_add] at h
 exact h
theorem Ev_uniq {α : Type} {f : Nat → Option α} {x y : α} (h : Ev f x) (g : Ev f y) : x = y := by
 obtain ⟨a, ha⟩ := h
 obtain ⟨c, hc⟩ := g
 have h1 := ha (a + c) (by omega)
 have h2 := hc (a + c) (by omega)
 rw [h1] at h2
 exact Option.some.inj h2
theorem unpack_packed (l : List Int) (hl : l.length ≤ 4096) (ho : ∀ v ∈ l, okNum v) : Ev (fun k => impl_UnpackInts.f k (packed l)) (l, 0) := by
 have hb := packed_bytes l hl ho
 have hlen : (packed l).length ≤ 1048576 := by
  have h1 := packTail_length 33 l ho
  have h2 := (vb_length 8 (l.length : Int)).2
  unfold packed
  rw [List.length_append]; omega
 obtain ⟨r, hG, _, hi⟩ := get_at (packed l) 0 hlen (by omega) hb
 have hv := get_vb (packed l) 0 hlen (by omega) (l.length : Int) (packTail 33 l) (by rw [List.drop_zero]; rfl) ⟨by omega, by omega⟩
 have hr := Ev_uniq hi hv
 have hr2 : r.2.2 = true := by
  by_cases c : r.2.2 = true
  ·exact c
  ·unfold tell at hr
   rw [if_neg c] at hr
   have := congrArg (fun x => x.2.2) hr
   simp at this
 unfold tell at hr
 rw [if_pos hr2] at hr
 have e1 : r.1 = (l.length : Int) := congrArg (fun x => x.1) hr
 have e2 : r.2.1 = ((0 + (vb 8 (l.length : Int)).length : Nat) : Int) := congrArg (fun x => x.2.1) hr
 have hu := impl_Unpack_eq (packed l) hb r hG (fun _ => hi)
 have : unTell (packed l) r = (l, 0) := by
  unfold unTell
  rw [if_neg (by omega), if_pos hr2, if_neg (by omega), e1, e2, Int.toNat_natCast, Int.toNat_natCast]
  rw [parse_ok (packed l) l.length 33 [] l (0 + (vb 8 (l.length : Int)).length) ho (by simp) (by omega) (by rw [Nat.zero_add]; unfold packed; rw [List.drop_left]) (by unfold packed; rw [List.length_append]; omega)]
  rw [finI, List.nil_append, if_pos rfl]
 rw [this] at hu
 exact hu
theorem finI_some (b o : List Int) (a : Nat) : finI b (some (o, a)) = if (strOfNums (packed o)).toList = (strOfNums b).toList then (o, 0) else ([], 3) := rfl
theorem unpack_other (b : List Int) (hl : b.length ≤ 1048576) (hb : ∀ x ∈ b, 0 ≤ x ∧ x ≤ 255) (hn : ∀ o : List Int, o.length ≤ 4096 → (∀ v ∈ o, okNum v) → packed o ≠ b) : ∃ o, Ev (fun k => impl_UnpackInts.f k b) (o, 3) := by
 obtain ⟨r, hG, _, hi⟩ := get_at b 0 hl (by omega) hb
 have hu := impl_Unpack_eq b hb r hG (fun _ => hi)
 have hlen := unTell_length b r hb hG
 have hok := unTell_ok b hb r hG
 have key : (unTell b r).2 = 3 := by
  unfold unTell at hlen hok ⊢
  rw [if_neg (by omega)] at hlen hok ⊢
  by_cases c : r.2.2 = true
  ·rw [if_pos c] at hlen hok ⊢
   by_cases c2 : r.1 > 4096
   ·rw [if_pos c2]
   ·rw [if_neg c2] at hlen hok ⊢
    generalize parse b r.1.toNat 33 [] r.2.1.toNat = z at *
    cases z with
    | none => rfl
    | some q =>
     obtain ⟨o, a⟩ := q
     rw [finI_some] at hlen hok ⊢
     by_cases c3 : (strOfNums (packed o)).toList = (strOfNums b).toList
     ·exfalso
      rw [if_pos c3] at hlen hok
      exact hn o hlen hok (str_inj _ _ (packed_bytes o hlen hok) hb c3)
     ·rw [if_neg c3]
  ·rw [if_neg c]
 refine ⟨(unTell b r).1, ?_⟩
 rw [← key]
 exact hu

def BytesOK (s : List Int) : Prop := s.length ≤ 1048576 ∧ ∀ i, i < s.length → 0 ≤ s.getD i 0 ∧ s.getD i 0 ≤ 255
def SeedOK (q : Int) : Prop := 0 ≤ q ∧ q < 2147483648
theorem src_byte (s : List Int) (hs : BytesOK s) (at_ q : Int) (h0 : 0 ≤ at_) (h1 : at_ ≤ 1000000000000) (hq : SeedOK q) :
  ∃ v q', spec_l01Src_byte.f s at_ q = some (v, at_ + 1, q') ∧ 0 ≤ v ∧ v ≤ 255 ∧ SeedOK q' := by
 obtain ⟨q0, q1⟩ := hq
 have e1 : Aside0 (wrap64 (at_ + 1) = at_ + 1) := ⟨w64 (by omega) (by omega)⟩
 have e2 : Aside0 (wrap64 (at_ + 1 - 1) = at_) := ⟨by rw [w64 (by omega) (by omega)]; omega⟩
 have hl := hs.1
 unfold spec_l01Src_byte.f
 rw [e1.out, e2.out]
 by_cases c : at_ + 1 ≤ (s.length : Int)
 ·rw [if_pos c, if_pos h0, if_pos (by omega)]
  obtain ⟨n, rfl⟩ : ∃ n : Nat, at_ = n := ⟨at_.toNat, by omega⟩
  obtain ⟨b0, b1⟩ := hs.2 n (by omega)
  rw [rd_nat]
  generalize s.getD n 0 = b at *
  have e3 : Aside0 (wrap64 b = b) := ⟨w64 (by omega) (by omega)⟩
  have e4 : Aside0 (wrap64 (q * 31) = q * 31) := ⟨w64 (by omega) (by omega)⟩
  have e5 : Aside0 (wrap64 (q * 31 + b) = q * 31 + b) := ⟨w64 (by omega) (by omega)⟩
  have e6 : Aside0 (wrap64 (q * 31 + b + 7) = q * 31 + b + 7) := ⟨w64 (by omega) (by omega)⟩
  rw [e3.out, e4.out, e5.out, e6.out, Int.tmod_eq_emod_of_nonneg (by omega)]
  exact ⟨_, _, rfl, b0, b1, by omega, by omega⟩
 ·rw [if_neg c]
  by_cases c2 : at_ + 1 > wrap64 (4000 + wrap64 (4 * (s.length : Int)))
  ·rw [if_pos c2]; exact ⟨_, _, rfl, by omega, by omega, q0, q1⟩
  ·rw [if_neg c2]
   have e4 : Aside0 (wrap64 (q * 1103515245) = q * 1103515245) := ⟨w64 (by omega) (by omega)⟩
   have e5 : Aside0 (wrap64 (q * 1103515245 + 12345) = q * 1103515245 + 12345) := ⟨w64 (by omega) (by omega)⟩
   rw [e4.out, e5.out, Int.tmod_eq_emod_of_nonneg (a := q * 1103515245 + 12345) (by omega)]
   generalize hz : (q * 1103515245 + 12345) % 2147483648 = z
   have z0 : 0 ≤ z := by omega
   have z1 : z < 2147483648 := by omega
   clear hz e4 e5 c2
   have e7 : Aside0 (wrap64 (Int.tdiv z 65536) = z / 65536) := ⟨by rw [Int.tdiv_eq_ediv_of_nonneg z0, w64 (by omega) (by omega)]⟩
   rw [e7.out, Int.tmod_eq_emod_of_nonneg (by omega)]
   exact ⟨_, _, rfl, by omega, by omega, z0, z1⟩
theorem src_next (s : List Int) (hs : BytesOK s) (at_ q n : Int) (h0 : 0 ≤ at_) (h1 : at_ ≤ 100000000000) (hq : SeedOK q) (hn : 1 ≤ n) :
  ∃ v a' q', spec_l01Src_next.f s at_ q n = some (v, a', q') ∧ 0 ≤ v ∧ v < n ∧ at_ ≤ a' ∧ a' ≤ at_ + 3 ∧ SeedOK q' := by
 unfold spec_l01Src_next.f
 by_cases c1 : n ≤ 1
 ·rw [if_pos c1]; exact ⟨_, _, _, rfl, by omega, by omega, by omega, by omega, hq⟩
 ·rw [if_neg c1]
  obtain ⟨v1, q1, e1, b1, d1, hq1⟩ := src_byte s hs at_ q h0 (by omega) hq
  rw [e1]
  by_cases c2 : n ≤ 256
  ·rw [if_pos c2, Option.bind_some, if_neg (by omega)]
   simp only
   rw [Int.tmod_eq_emod_of_nonneg b1]
   exact ⟨_, _, _, rfl, Int.emod_nonneg _ (by omega), Int.emod_lt_of_pos _ (by omega), by omega, by omega, hq1⟩
  ·obtain ⟨v2, q2, e2, b2, d2, hq2⟩ := src_byte s hs (at_ + 1) q1 (by omega) (by omega) hq1
   obtain ⟨v3, q3, e3, b3, d3, hq3⟩ := src_byte s hs (at_ + 1 + 1) q2 (by omega) (by omega) hq2
   rw [if_neg c2]
   simp only [Option.bind_some]
   rw [e2]
   simp only [Option.bind_some]
   rw [e3]
   simp only [Option.bind_some]
   rw [if_neg (by omega)]
   have w1 : Aside0 (wrap64 (v1 * 65536) = v1 * 65536) := ⟨w64 (by omega) (by omega)⟩
   have w2 : Aside0 (wrap64 (v2 * 256) = v2 * 256) := ⟨w64 (by omega) (by omega)⟩
   have w3 : Aside0 (wrap64 (v1 * 65536 + v2 * 256) = v1 * 65536 + v2 * 256) := ⟨w64 (by omega) (by omega)⟩
   have w4 : Aside0 (wrap64 (v1 * 65536 + v2 * 256 + v3) = v1 * 65536 + v2 * 256 + v3) := ⟨w64 (by omega) (by omega)⟩
   rw [w1.out, w2.out, w3.out, w4.out, Int.tmod_eq_emod_of_nonneg (by omega)]
   exact ⟨_, _, _, rfl, Int.emod_nonneg _ (by omega), Int.emod_lt_of_pos _ (by omega), by omega, by omega, hq3⟩
theorem src_start (l : List Int) (h : l.length ≤ 1048576) : ∃ q, spec_l01Source.f l = some (l, 0, q) ∧ SeedOK q := by
 unfold spec_l01Source.f
 exact ⟨_, rfl, by omega, by omega⟩

theorem putInt_eq (v : Int) (hv : okNum v) : Ev (fun k => impl_PutInt.f k v) (vb 8 v, 0) := by
 unfold impl_PutInt.f
 have hp : Ev (fun k => impl_putInt.f k [] v) (vb 8 v) :=
  ⟨9, fun k hk => by
   have h := put_impl impl_putInt.l0 (fun _ _ _ => rfl) 8 (by omega) k [] v (by simp) hv.1 (by rw [pow128_8]; have := hv.2; omega) (by omega)
   rw [List.nil_append] at h
   exact h⟩
 exact Ev.bind (Ev.ofEq (within_num v)) (Ev.pos ((okB_iff v).2 hv) (Ev.bind hp (Ev.now _)))
theorem same_eq (xs : List Int) (hn : xs.length ≤ 100000) : Ev (fun k => laws_sameInts.f k xs xs) true := by
 unfold laws_sameInts.f
 exact Ev.pos rfl (Ev.from xs.length (fun k hk => eqS_all laws_sameInts.l0 (fun _ _ _ _ => rfl) xs (by omega) k hk))
theorem gaps_get (l : List Int) (i : Nat) (h : i < l.length) : (gapsTo l l.length).getD i 0 = gapAt l i := by
 unfold gapsTo
 rw [List.getD_eq_getElem?_getD, List.getElem?_map, List.getElem?_range h]; rfl
theorem take_get (l : List Int) (i j : Nat) (h : j < i) (hi : i ≤ l.length) : (l.take i).getD j 0 = l.getD j 0 := by
 rw [List.getD_eq_getElem?_getD, List.getD_eq_getElem?_getD, List.getElem?_take_of_lt h]
theorem take_snoc (l : List Int) (i : Nat) (h : i < l.length) : l.take i ++ [l.getD i 0] = l.take (i + 1) := by
 rw [List.take_succ_eq_append_getElem h, List.getD_eq_getElem?_getD, List.getElem?_eq_getElem h]; rfl
theorem risN_gaps (l : List Int) (ho : ∀ v ∈ l, okNum v) (d : Nat) : ∀ i, i + d = l.length → risN (gapsTo l l.length) d (l.take i) = some l := by
 induction d with
 | zero => intro i hi; rw [risN, List.take_of_length_le (by omega)]
 | succ d ih =>
  intro i hi
  have hlt : i < l.length := by omega
  have hl : (l.take i).length = i := by rw [List.length_take]; omega
  rw [risN, hl, gaps_get l i hlt]
  have ok : ∀ j, j < l.length → 0 ≤ l.getD j 0 ∧ l.getD j 0 ≤ 4611686018427387903 := fun j hj => ok_at l ho j hj
  by_cases c : i = 0
  ·subst c
   rw [if_pos rfl]
   have : gapAt l 0 = l.getD 0 0 := by unfold gapAt; rw [if_pos rfl]
   rw [this, take_snoc l 0 hlt]; exact ih 1 (by omega)
  ·have hg : gapAt l i = l.getD i 0 - l.getD (i - 1) 0 - 1 := by unfold gapAt; rw [if_neg c]
   have h1 := ok i hlt
   rw [if_neg c, hg, take_get l i (i - 1) (by omega) (by omega), if_neg (by omega)]
   have e : l.getD (i - 1) 0 + 1 + (l.getD i 0 - l.getD (i - 1) 0 - 1) = l.getD i 0 := by omega
   rw [e, take_snoc l i hlt]; exact ih (i + 1) (by omega)
theorem unrise (l : List Int) (hl : l.length ≤ 4096) (ho : ∀ v ∈ l, okNum v) (hr : risFrom l (l.length - 1) 1 = true) : Ev (fun k => impl_UnpackRising.f k (packed (gapsTo l l.length))) (l, 0) := by
 have hgl : (gapsTo l l.length).length = l.length := gapsTo_length l _
 have hgo := gaps_ok l ho hr
 refine Ev.congr (f := fun k => (impl_UnpackInts.f k (packed (gapsTo l l.length))).bind fun t => if t.2 = 0 then impl_UnpackRising.l0 k t.1 (t.1.length : Int) 0 else some ([], t.2)) (fun k => rfl) ?_
 refine Ev.bind (unpack_packed _ (by omega) hgo) (Ev.pos rfl ?_)
 have h := impl_r0 (gapsTo l l.length) hgo (by omega) (gapsTo l l.length).length [] (by simp) (fun v hv => by cases hv)
 simp only [List.length_nil, List.drop_zero, List.nil_append, n0] at h
 have e := risN_gaps l ho l.length 0 (by omega)
 rw [List.take_zero] at e
 rw [hgl, e] at h
 simp only [hgl]
 exact h

def Go3 (f : Nat → Option (Int × Int × Int)) (a : Int) (m : Int) : Prop := ∃ v a' q', Ev f (v, a', q') ∧ a ≤ a' ∧ a' ≤ a + m ∧ SeedOK q'
theorem chance_ex (s : List Int) (hs : BytesOK s) (a q n : Int) (h0 : 0 ≤ a) (h1 : a ≤ 100000000000) (hq : SeedOK q) (hn : 1 ≤ n) :
  ∃ b a' q', spec_l01Src_chance.f s a q n = some (b, a', q') ∧ a ≤ a' ∧ a' ≤ a + 3 ∧ SeedOK q' := by
 obtain ⟨v, a', q', e, _, _, h2, h3, h4⟩ := src_next s hs a q n h0 h1 hq hn
 unfold spec_l01Src_chance.f
 rw [e, Option.bind_some]
 exact ⟨_, _, _, rfl, h2, h3, h4⟩
theorem num_ex (s : List Int) (hs : BytesOK s) (a q : Int) (h0 : 0 ≤ a) (h1 : a ≤ 10000000000) (hq : SeedOK q) : Go3 (fun k => spec_l01Src_num.f k s a q) a 20 := by
 obtain ⟨v, a', q', e, v0, v1, h2, h3, h4⟩ := src_next s hs a q 12 h0 (by omega) hq (by omega)
 unfold spec_l01Src_num.f Go3
 rw [e]
 simp only [Option.bind_some]
 by_cases c0 : v = 0
 ·obtain ⟨v2, a2, q2, e2, b2, c2, h5, h6, h7⟩ := src_next s hs a' q' 10 (by omega) (by omega) h4 (by omega)
  refine ⟨_, a2, q2, Ev.pos c0 (Ev.bind (Ev.ofEq e2) (Ev.pos b2 (Ev.pos (by simp; omega) (Ev.now _)))), by omega, by omega, h7⟩
 ·by_cases c1 : v = 1
  ·obtain ⟨v2, a2, q2, e2, b2, c2, h5, h6, h7⟩ := src_next s hs a' q' 16777216 (by omega) (by omega) h4 (by omega)
   obtain ⟨v3, a3, q3, e3, b3, c3, h8, h9, h10⟩ := src_next s hs a2 q2 65536 (by omega) (by omega) h7 (by omega)
   exact ⟨_, a3, q3, Ev.neg c0 (Ev.pos c1 (Ev.bind (Ev.ofEq e2) (Ev.bind (Ev.ofEq e3) (Ev.now _)))), by omega, by omega, h10⟩
  ·have j : ∀ b, ∃ v2 a2 q2, Ev (fun k => spec_l01Src_num.j0 k b s a' q') (v2, a2, q2) ∧ a' ≤ a2 ∧ a2 ≤ a' + 3 ∧ SeedOK q2 := by
    intro b
    cases b with
    | true =>
     obtain ⟨v2, a2, q2, e2, b2, c2, h5, h6, h7⟩ := src_next s hs a' q' 100000 (by omega) (by omega) h4 (by omega)
     refine ⟨v2, a2, q2, Ev.step (f := fun _ => some (v2, a2, q2)) (fun k => ?_) (Ev.now _), h5, h6, h7⟩
     rw [spec_l01Src_num.j0, if_pos rfl, e2]; rfl
    | false =>
     obtain ⟨v2, a2, q2, e2, b2, c2, h5, h6, h7⟩ := src_next s hs a' q' 60 (by omega) (by omega) h4 (by omega)
     refine ⟨v2, a2, q2, Ev.step (f := fun _ => some (v2, a2, q2)) (fun k => ?_) (Ev.now _), h5, h6, h7⟩
     rw [spec_l01Src_num.j0, if_neg (by decide), e2]; rfl
   by_cases c2 : v = 2
   ·obtain ⟨v2, a2, q2, hr, g1, g2, g3⟩ := j (v == 2)
    exact ⟨v2, a2, q2, Ev.neg c0 (Ev.neg c1 (Ev.pos c2 hr)), by omega, by omega, g3⟩
   ·obtain ⟨v2, a2, q2, hr, g1, g2, g3⟩ := j (v == 3)
    exact ⟨v2, a2, q2, Ev.neg c0 (Ev.neg c1 (Ev.neg c2 hr)), by omega, by omega, g3⟩
theorem odd_ex (s : List Int) (hs : BytesOK s) (a q : Int) (h0 : 0 ≤ a) (h1 : a ≤ 1000000000) (hq : SeedOK q) : Go3 (fun k => spec_l01Src_oddNum.f k s a q) a 40 := by
 obtain ⟨b, a', q', e, h2, h3, h4⟩ := chance_ex s hs a q 6 h0 (by omega) hq (by omega)
 unfold spec_l01Src_oddNum.f Go3
 rw [e]
 simp only [Option.bind_some]
 cases b with
 | true =>
  obtain ⟨v2, a2, q2, e2, b2, c2, h5, h6, h7⟩ := src_next s hs a' q' 4 (by omega) (by omega) h4 (by omega)
  exact ⟨_, a2, q2, Ev.pos rfl (Ev.bind (Ev.ofEq e2) (Ev.pos b2 (Ev.pos (by simp; omega) (Ev.now _)))), by omega, by omega, h7⟩
 | false =>
  obtain ⟨v2, a2, q2, hr, g1, g2, g3⟩ := num_ex s hs a' q' (by omega) (by omega) h4
  exact ⟨_, a2, q2, Ev.neg (by decide) (Ev.bind hr (Ev.now _)), by omega, by omega, g3⟩
def GoL (f : Nat → Option (List Int × Int × Int)) (a m : Int) (n : Nat) : Prop := ∃ l a' q', Ev f (l, a', q') ∧ a ≤ a' ∧ a' ≤ a + m ∧ SeedOK q' ∧ l.length ≤ n
theorem list_loop (s : List Int) (hs : BytesOK s) (b : Bool) (n : Nat) : ∀ (x : List Int) (a q : Int), x.length + n ≤ 1000 → 0 ≤ a → a + 20 * (n : Int) ≤ 1000000 → SeedOK q → GoL (fun k => spec_l03DrawList.l0 k x (n : Int) b s a q) a (20 * (n : Int)) (x.length + n) := by
 induction n with
 | zero =>
  intro x a q _ _ _ hq
  refine ⟨x, a, q, Ev.step (fun k => ?_) (Ev.now _), by omega, by omega, hq, by omega⟩
  rw [spec_l03DrawList.l0, if_neg (by omega)]
 | succ n ih =>
  intro x a q hx h0 h1 hq
  obtain ⟨v, a', q', hv, g1, g2, g3⟩ := num_ex s hs a q h0 (by omega) hq
  have e : wrap64 (((n + 1 : Nat) : Int) - 1) = (n : Int) := by rw [w64 (by omega) (by omega)]; omega
  have hbig : x.length < 17592186044416 := by omega
  have nx : ∀ u : Int, GoL (fun k => spec_l03DrawList.l0 k (x ++ [u]) (n : Int) b s a' q') a' (20 * (n : Int)) (x.length + 1 + n) := by
   intro u
   have := ih (x ++ [u]) a' q' (by simp; omega) (by omega) (by omega) g3
   rw [List.length_append] at this
   exact this
  cases b with
  | true =>
   obtain ⟨l, a2, q2, hl, k1, k2, k3, k4⟩ := nx (Int.tmod v 16)
   refine ⟨l, a2, q2, ?_, by omega, by omega, k3, by omega⟩
   refine Ev.step (fun k => by rw [spec_l03DrawList.l0, if_pos (by omega), e]) ?_
   refine Ev.bind hv ?_
   refine Ev.pos rfl ?_
   exact Ev.pos hbig hl
  | false =>
   obtain ⟨l, a2, q2, hl, k1, k2, k3, k4⟩ := nx v
   refine ⟨l, a2, q2, ?_, by omega, by omega, k3, by omega⟩
   refine Ev.step (fun k => by rw [spec_l03DrawList.l0, if_pos (by omega), e]) ?_
   refine Ev.bind hv ?_
   refine Ev.neg (by simp) ?_
   exact Ev.pos hbig hl
theorem list_j0 (s : List Int) (hs : BytesOK s) (n : Nat) (hn : n ≤ 300) (a q : Int) (h0 : 0 ≤ a) (h1 : a ≤ 1000) (hq : SeedOK q) : GoL (fun k => spec_l03DrawList.j0 k [] (n : Int) s a q) a 10000 300 := by
 obtain ⟨b, a1, q1, e, g1, g2, g3⟩ := chance_ex s hs a q 2 h0 (by omega) hq (by omega)
 obtain ⟨l, a2, q2, hl, k1, k2, k3, k4⟩ := list_loop s hs b n [] a1 q1 (by simp; omega) (by omega) (by omega) g3
 refine ⟨l, a2, q2, ?_, by omega, by omega, k3, by simp at k4; omega⟩
 refine Ev.step (fun k => by rw [spec_l03DrawList.j0]) ?_
 exact Ev.bind (Ev.ofEq e) hl
theorem size_ex (s : List Int) (hs : BytesOK s) (a q : Int) : ∃ z, spec_l01Src_size.f s a q 40 = some (z, a, q) ∧ 1 ≤ z ∧ z ≤ 40 := by
 unfold spec_l01Src_size.f
 have hl := hs.1
 have e1 : wrap64 ((s.length : Int) / 12) = (s.length : Int) / 12 := w64 (by omega) (by omega)
 have e2 : wrap64 (1 + (s.length : Int) / 12) = 1 + (s.length : Int) / 12 := w64 (by omega) (by omega)
 rw [e1, e2]
 refine ⟨_, rfl, ?_, ?_⟩
 ·unfold mn; split <;> omega
 ·unfold mn; split <;> omega
theorem drawList_ex (s : List Int) (hs : BytesOK s) (a q : Int) (h0 : 0 ≤ a) (h1 : a ≤ 100) (hq : SeedOK q) : GoL (fun k => spec_l03DrawList.f k s a q) a 20000 300 := by
 obtain ⟨z, e0, z0, z1⟩ := size_ex s hs a q
 have ez : wrap64 (z + 1) = z + 1 := w64 (by omega) (by omega)
 obtain ⟨v, a1, q1, e1, b1, c1, g1, g2, g3⟩ := src_next s hs a q (z + 1) h0 (by omega) hq (by omega)
 obtain ⟨b, a2, q2, e2, g4, g5, g6⟩ := chance_ex s hs a1 q1 6 (by omega) (by omega) g3 (by omega)
 unfold spec_l03DrawList.f
 cases b with
 | true =>
  obtain ⟨v3, a3, q3, e3, b3, c3, g7, g8, g9⟩ := src_next s hs a2 q2 3 (by omega) (by omega) g6 (by omega)
  obtain ⟨v4, a4, q4, e4, b4, c4, g10, g11, g12⟩ := src_next s hs a3 q3 2 (by omega) (by omega) g9 (by omega)
  obtain ⟨l, a5, q5, hl, k1, k2, k3, k4⟩ := list_j0 s hs (127 + v3 + 128 * v4).toNat (by omega) a4 q4 (by omega) (by omega) g12
  refine ⟨l, a5, q5, ?_, by omega, by omega, k3, k4⟩
  refine Ev.bind (Ev.ofEq rfl) ?_
  refine Ev.bind (Ev.ofEq e0) ?_
  simp only
  rw [ez]
  refine Ev.bind (Ev.ofEq e1) ?_
  refine Ev.bind (Ev.ofEq e2) ?_
  refine Ev.pos rfl ?_
  refine Ev.bind (Ev.ofEq e3) ?_
  refine Ev.bind (Ev.ofEq e4) ?_
  have ew : wrap64 (wrap64 (127 + v3) + wrap64 (128 * v4)) = ((127 + v3 + 128 * v4).toNat : Int) := by
   rw [w64 (x := 127 + v3) (by omega) (by omega), w64 (x := 128 * v4) (by omega) (by omega), w64 (by omega) (by omega)]; omega
  simp only
  rw [ew]
  exact hl
 | false =>
  obtain ⟨l, a5, q5, hl, k1, k2, k3, k4⟩ := list_j0 s hs v.toNat (by omega) a2 q2 (by omega) (by omega) g6
  refine ⟨l, a5, q5, ?_, by omega, by omega, k3, k4⟩
  refine Ev.bind (Ev.ofEq rfl) ?_
  refine Ev.bind (Ev.ofEq e0) ?_
  simp only
  rw [ez]
  refine Ev.bind (Ev.ofEq e1) ?_
  refine Ev.bind (Ev.ofEq e2) ?_
  refine Ev.neg (by simp) ?_
  have ew : ((v.toNat : Nat) : Int) = v := by omega
  rw [ew] at hl
  exact hl
theorem ints_j0 (s x : List Int) (hx : x.length ≤ 400) (hs : BytesOK s) (a q : Int) (h0 : 0 ≤ a) (h1 : a ≤ 100000) (hq : SeedOK q) : ∃ l, Ev (fun k => spec_DrawPackInts.j0 k x s a q) l ∧ l.length ≤ 5000 := by
 obtain ⟨b, a1, q1, e1, g1, g2, g3⟩ := chance_ex s hs a q 60 h0 (by omega) hq (by omega)
 cases b with
 | true =>
  obtain ⟨v2, a2, q2, e2, b2, c2, g4, g5, g6⟩ := src_next s hs a1 q1 2 (by omega) (by omega) g3 (by omega)
  have ew : wrap64 (4096 + v2) = 4096 + v2 := w64 (by omega) (by omega)
  refine ⟨List.replicate (4096 + v2).toNat 0, ?_, by rw [List.length_replicate]; omega⟩
  refine Ev.step (fun k => by rw [spec_DrawPackInts.j0]) ?_
  refine Ev.bind (Ev.ofEq e1) ?_
  refine Ev.pos rfl ?_
  refine Ev.bind (Ev.ofEq e2) ?_
  simp only
  rw [ew]
  exact Ev.pos (by omega) (Ev.pos (by omega) (Ev.now _))
 | false =>
  refine ⟨x, ?_, by omega⟩
  refine Ev.step (fun k => by rw [spec_DrawPackInts.j0]) ?_
  refine Ev.bind (Ev.ofEq e1) ?_
  exact Ev.neg (by simp) (Ev.now _)
theorem drawInts_ex (s : List Int) (hs : BytesOK s) : ∃ l, Ev (fun k => spec_DrawPackInts.f k s) l ∧ l.length ≤ 5000 := by
 obtain ⟨q0, e0, hq0⟩ := src_start s hs.1
 obtain ⟨x, a1, q1, hx, g1, g2, g3, g4⟩ := drawList_ex s hs 0 q0 (by omega) (by omega) hq0
 obtain ⟨b, a2, q2, e2, g5, g6, g7⟩ := chance_ex s hs a1 q1 8 (by omega) (by omega) g3 (by omega)
 unfold spec_DrawPackInts.f
 cases b with
 | true =>
  obtain ⟨v, a3, q3, hv, k1, k2, k3⟩ := odd_ex s hs a2 q2 (by omega) (by omega) g7
  obtain ⟨l, hl, hl2⟩ := ints_j0 s (x ++ [v]) (by simp; omega) hs a3 q3 (by omega) (by omega) k3
  refine ⟨l, ?_, hl2⟩
  refine Ev.bind (Ev.ofEq e0) ?_
  refine Ev.bind hx ?_
  refine Ev.bind (Ev.ofEq e2) ?_
  refine Ev.pos rfl ?_
  refine Ev.bind hv ?_
  exact Ev.pos (show x.length < 17592186044416 by omega) hl
 | false =>
  obtain ⟨l, hl, hl2⟩ := ints_j0 s x (by omega) hs a2 q2 (by omega) (by omega) g7
  refine ⟨l, ?_, hl2⟩
  refine Ev.bind (Ev.ofEq e0) ?_
  refine Ev.bind hx ?_
  refine Ev.bind (Ev.ofEq e2) ?_
  exact Ev.neg (by simp) hl
theorem rising_loop (s : List Int) (a q : Int) (d : Nat) : ∀ (x : List Int) (last : Int) (i : Nat), x.length ≤ 300 → i + d = x.length → ∃ l, Ev (fun k => spec_l03DrawRising.l0 k x last (i : Int) s a q) (l, a, q) ∧ l.length = x.length := by
 induction d with
 | zero =>
  intro x last i _ hi
  refine ⟨x, Ev.step (fun k => ?_) (Ev.now _), rfl⟩
  rw [spec_l03DrawRising.l0, if_neg (by omega)]
 | succ d ih =>
  intro x last i hx hi
  obtain ⟨l, hl, hl2⟩ := ih (x.set i (wrap64 ((wrap64 ((wrap64 (last + (Int.tmod (rd x (i : Int)) 1000))) + 1)) - 1))) (wrap64 ((wrap64 (last + (Int.tmod (rd x (i : Int)) 1000))) + 1)) (i + 1) (by rw [List.length_set]; omega) (by rw [List.length_set]; omega)
  rw [List.length_set] at hl2
  refine ⟨l, Ev.step (fun k => ?_) hl, hl2⟩
  have e : wrap64 ((i : Int) + 1) = ((i + 1 : Nat) : Int) := by rw [w64 (by omega) (by omega)]; omega
  rw [spec_l03DrawRising.l0, if_pos (by omega), if_pos (by omega), e, Int.toNat_natCast]
theorem ris_end (x : List Int) (hx : x.length ≤ 400) (b : Bool) : ∃ l, (if b = true then (if x.length < 17592186044416 then (some (x ++ [4611686018427387903])) else (none)) else (some x)) = some l ∧ l.length ≤ 401 := by
 cases b with
 | true => exact ⟨x ++ [4611686018427387903], by rw [if_pos rfl, if_pos (by omega)], by simp; omega⟩
 | false => exact ⟨x, by rw [if_neg (by decide)], by omega⟩
theorem ris_j0 (s x : List Int) (hx : x.length ≤ 300) (b : Bool) (hb : b = true → 0 < x.length) (hs : BytesOK s) (a q : Int) (h0 : 0 ≤ a) (h1 : a ≤ 100000) (hq : SeedOK q) : ∃ l, Ev (fun k => spec_DrawPackRising.j0 k x b s a q) l ∧ l.length ≤ 401 := by
 cases b with
 | true =>
  have hp := hb rfl
  obtain ⟨v, a1, q1, e1, b1, c1, g1, g2, g3⟩ := src_next s hs a q (x.length : Int) h0 (by omega) hq (by omega)
  obtain ⟨u, a2, q2, hu, k1, k2, k3⟩ := odd_ex s hs a1 q1 (by omega) (by omega) g3
  obtain ⟨c, a3, q3, e3, g4, g5, g6⟩ := chance_ex s hs a2 q2 10 (by omega) (by omega) k3 (by omega)
  obtain ⟨l, hl, hl2⟩ := ris_end (x.set v.toNat u) (by rw [List.length_set]; omega) c
  refine ⟨l, ?_, hl2⟩
  refine Ev.step (fun k => by rw [spec_DrawPackRising.j0]) ?_
  refine Ev.pos rfl ?_
  refine Ev.bind (Ev.ofEq e1) ?_
  refine Ev.bind hu ?_
  refine Ev.pos b1 ?_
  refine Ev.pos c1 ?_
  refine Ev.bind (Ev.ofEq rfl) ?_
  refine Ev.bind (Ev.ofEq e3) ?_
  exact Ev.ofEq hl
 | false =>
  obtain ⟨c, a3, q3, e3, g4, g5, g6⟩ := chance_ex s hs a q 10 (by omega) (by omega) hq (by omega)
  obtain ⟨l, hl, hl2⟩ := ris_end x (by omega) c
  refine ⟨l, ?_, hl2⟩
  refine Ev.step (fun k => by rw [spec_DrawPackRising.j0]) ?_
  refine Ev.neg (by simp) ?_
  refine Ev.bind (Ev.ofEq e3) ?_
  exact Ev.ofEq hl
theorem drawRising_ex (s : List Int) (hs : BytesOK s) : ∃ l, Ev (fun k => spec_DrawPackRising.f k s) l ∧ l.length ≤ 401 := by
 obtain ⟨q0, e0, hq0⟩ := src_start s hs.1
 obtain ⟨x, a1, q1, hx, g1, g2, g3, g4⟩ := drawList_ex s hs 0 q0 (by omega) (by omega) hq0
 obtain ⟨y, hy, hy2⟩ := rising_loop s a1 q1 x.length x 0 0 g4 (by omega)
 have hf : Ev (fun k => spec_l03DrawRising.f k s 0 q0) (y, a1, q1) := by
  unfold spec_l03DrawRising.f
  exact Ev.bind hx hy
 unfold spec_DrawPackRising.f
 by_cases c : (y.length : Int) > 0
 ·obtain ⟨b, a2, q2, e2, g5, g6, g7⟩ := chance_ex s hs a1 q1 4 (by omega) (by omega) g3 (by omega)
  obtain ⟨l, hl, hl2⟩ := ris_j0 s y (by omega) b (fun _ => by omega) hs a2 q2 (by omega) (by omega) g7
  refine ⟨l, ?_, hl2⟩
  refine Ev.bind (Ev.ofEq e0) ?_
  refine Ev.bind hf ?_
  refine Ev.pos c ?_
  refine Ev.bind (Ev.ofEq e2) ?_
  exact hl
 ·obtain ⟨l, hl, hl2⟩ := ris_j0 s y (by omega) false (fun h => by cases h) hs a1 q1 (by omega) (by omega) g3
  refine ⟨l, ?_, hl2⟩
  refine Ev.bind (Ev.ofEq e0) ?_
  refine Ev.bind hf ?_
  exact Ev.neg c hl

theorem law_j4 (s : List Int) (hs : BytesOK s) : Ev (fun k => laws_FnPacked.j4 k s) true := by
 obtain ⟨l, hl, hl2⟩ := drawRising_ex s hs
 refine Ev.step (fun k => by rw [laws_FnPacked.j4]) ?_
 refine Ev.bind hl ?_
 refine Ev.bind (impl_PackRising_eq l) ?_
 refine Ev.bind (spec_PackRising_eq l) ?_
 refine Ev.pos rfl ?_
 unfold risTell
 rw [if_neg (by omega)]
 by_cases c1 : l.all okB = true
 ·rw [if_pos c1]
  have ho := all_ok l c1
  by_cases c2 : risFrom l (l.length - 1) 1 = true
  ·rw [if_pos c2]
   refine Ev.pos rfl ?_
   refine Ev.bind (unrise l (by omega) ho c2) ?_
   refine Ev.pos rfl ?_
   exact Ev.bind (same_eq l (by omega)) (Ev.now _)
  ·rw [if_neg c2]; exact Ev.neg (by decide) (Ev.now _)
 ·rw [if_neg c1]; exact Ev.neg (by decide) (Ev.now _)
theorem law_loop (s : List Int) (hs : BytesOK s) (l : List Int) (hl : l.length ≤ 4096) (ho : ∀ v ∈ l, okNum v) (d : Nat) : ∀ i, i + d = l.length → Ev (fun k => laws_FnPacked.l0 k s l (i : Int)) true := by
 induction d with
 | zero =>
  intro i hi
  refine Ev.step (f := fun k => laws_FnPacked.j3 k s l (i : Int) false) (fun k => by rw [laws_FnPacked.l0, if_neg (by omega)]) ?_
  exact Ev.step (fun k => by rw [laws_FnPacked.j3, if_neg (by decide)]) (law_j4 s hs)
 | succ d ih =>
  intro i hi
  have hlt : i < l.length := by omega
  refine Ev.step (f := fun k => laws_FnPacked.j3 k s l (i : Int) (decide ((i : Int) < 40))) (fun k => by rw [laws_FnPacked.l0, if_pos (by omega)]) ?_
  by_cases c : (i : Int) < 40
  ·have hv := ok_at l ho i hlt
   have e : wrap64 ((i : Int) + 1) = ((i + 1 : Nat) : Int) := by rw [w64 (by omega) (by omega)]; omega
   have er : rd l (i : Int) = l.getD i 0 := rd_nat l i
   refine Ev.step (fun k => by rw [laws_FnPacked.j3, if_pos (decide_eq_true c), if_pos (by omega), if_pos (by omega), er, e]) ?_
   generalize l.getD i 0 = v at *
   have hvl := vb_length 8 v
   refine Ev.bind (putInt_eq v hv) ?_
   refine Ev.bind (Ev.ofEq rfl) ?_
   refine Ev.pos (show ([5] : List Int).length + (vb 8 v).length < 140737488355328 by simp; omega) ?_
   have hg := get_vb ([5] ++ vb 8 v) 1 (by simp; omega) (by simp) v [] (by simp) hv
   refine Ev.bind hg ?_
   refine Ev.pos rfl (Ev.pos rfl (Ev.pos rfl (Ev.pos ?_ (ih (i + 1) (by omega)))))
   have : wrap64 (1 + ((vb 8 v).length : Int)) = 1 + ((vb 8 v).length : Int) := w64 (by omega) (by omega)
   simp only
   rw [this]
   omega
  ·exact Ev.step (fun k => by rw [laws_FnPacked.j3, decide_eq_false c, if_neg (by decide)]) (law_j4 s hs)
theorem FnPacked (s : List Int) (hw : s.length ≤ maxLen ∧ ∀ y0 ∈ s, (Lit.int .u8 y0).wf = true) : ∃ k, laws_FnPacked.f k s = some true := by
 refine Ev.rounds (g := fun k => laws_FnPacked.f k s) ?_
 unfold laws_FnPacked.f
 by_cases h : (s.length : Int) > 1048576
 ·exact Ev.pos h (Ev.now _)
 ·refine Ev.neg h ?_
  have hs : BytesOK s := by
   refine ⟨by omega, fun i hi => ?_⟩
   have := hw.2 s[i] (List.getElem_mem hi)
   rw [List.getD_eq_getElem?_getD, List.getElem?_eq_getElem hi]
   exact wf8 this
  obtain ⟨l, hl, hl2⟩ := drawInts_ex s hs
  refine Ev.bind hl ?_
  refine Ev.bind (impl_PackInts_eq l) ?_
  refine Ev.bind (spec_PackInts_eq l) ?_
  refine Ev.pos rfl ?_
  refine Ev.step (fun k => by rw [laws_FnPacked.j0]) ?_
  refine Ev.neg (by simp) ?_
  unfold packTell
  by_cases c1 : (l.length : Int) > 4096
  ·rw [if_pos c1]; exact Ev.neg (by decide) (law_j4 s hs)
  ·rw [if_neg c1]
   by_cases c2 : l.all okB = true
   ·rw [if_pos c2]
    have ho := all_ok l c2
    have hb := packed_bytes l (by omega) ho
    have hn : (packed l).length ≤ 100000 := by
     have h1 := packTail_length 33 l ho
     have h2 := (vb_length 8 (l.length : Int)).2
     unfold packed
     rw [List.length_append]; omega
    have hp : 1 ≤ (packed l).length := by
     have h2 := (vb_length 8 (l.length : Int)).1
     unfold packed
     rw [List.length_append]; omega
    have ew : wrap64 (((packed l).length : Int) - 1) = (((packed l).length - 1 : Nat) : Int) := by rw [w64 (by omega) (by omega)]; omega
    obtain ⟨o1, h1⟩ := unpack_other ((packed l).take ((packed l).length - 1)) (by rw [List.length_take]; omega) (fun x hx => hb x (List.mem_of_mem_take hx)) (fun o ol oo he => by
     have hpre : packed o ++ (packed l).drop ((packed l).length - 1) = packed l := by rw [he, List.take_append_drop]
     have := (packed_pre o l _ oo ho ol (by omega) hpre).2
     have := congrArg List.length this
     rw [List.length_drop] at this
     simp at this
     omega)
    obtain ⟨o2, h2⟩ := unpack_other (packed l ++ [0]) (by simp; omega) (fun x hx => by
     rcases List.mem_append.1 hx with h | h
     ·exact hb x h
     ·rw [List.mem_singleton.1 h]; omega) (fun o ol oo he => by
     have := (packed_pre l o [0] ho oo (by omega) ol he.symm).2
     cases this)
    refine Ev.pos rfl ?_
    refine Ev.bind (Ev.ofEq rfl) ?_
    simp only [List.length_nil, Nat.zero_add, List.nil_append]
    refine Ev.pos (show (packed l).length < 140737488355328 by omega) ?_
    refine Ev.bind (unpack_packed l (by omega) ho) ?_
    rw [ew, Int.toNat_natCast]
    refine Ev.pos (by omega) ?_
    refine Ev.pos (by omega) ?_
    refine Ev.bind h1 ?_
    refine Ev.bind (Ev.ofEq rfl) ?_
    simp only [List.length_nil, Nat.zero_add, List.nil_append]
    refine Ev.pos (show (packed l).length < 140737488355328 by omega) ?_
    refine Ev.bind (Ev.ofEq rfl) ?_
    refine Ev.pos (show (packed l).length < 140737488355328 by omega) ?_
    refine Ev.bind h2 ?_
    refine Ev.pos (by trivial) ?_
    refine Ev.bind (same_eq l (by omega)) ?_
    refine Ev.pos (by trivial) ?_
    refine Ev.pos (by trivial) ?_
    refine Ev.step (fun k => by rw [laws_FnPacked.j1]) ?_
    refine Ev.neg (by simp) ?_
    exact law_loop s hs l (by omega) ho l.length 0 (by omega)
   ·rw [if_neg c2]; exact Ev.neg (by decide) (law_j4 s hs)

end Go.Proofs.Ytfkejcakklpecaa.Pure
