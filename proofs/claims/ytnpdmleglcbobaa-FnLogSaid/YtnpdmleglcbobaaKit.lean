/- Small lemmas of my own over the printed words: copies, equality, marks, and numbers that fit. -/
import Derived.Test.YtnpdmleglcbobaaWWords
import Derived.Test.YtnpdmleglcbobaaWMore
import Derived.Laws.BitsLemmas
import Derived.Test.YtnpdmleglcbobaaSized
namespace Go.Proofs.Ytnpdmleglcbobaa.Kit
open Go.RowKit Go.Proofs.YtnpdmleglcbobaaW.PrintWords Go.Proofs.YtnpdmleglcbobaaW.PrintLast Go.Proofs.YtnpdmleglcbobaaW.PrintMore

theorem w64 {x : Int} (h0 : -9223372036854775808 ≤ x) (h1 : x ≤ 9223372036854775807) : wrap64 x = x := by unfold wrap64; omega

theorem wf8 {x : Int} (h : (Lit.int .u8 x).wf = true) : 0 ≤ x ∧ x ≤ 255 := by
 simp [Lit.wf, IntKind.min, IntKind.max, IntKind.signed, IntKind.bits] at h; omega

theorem rd_nat (xs : List Int) (i : Nat) : rd xs (i : Int) = xs.getD i 0 := by simp [rd]

theorem rd_lt (xs : List Int) (i : Nat) (h : i < xs.length) : rd xs (i : Int) = xs[i] := by
 rw [rd_nat, List.getD_eq_getElem?_getD, List.getElem?_eq_getElem h]; rfl

theorem rd_mem (xs : List Int) (i : Nat) (h : i < xs.length) : rd xs (i : Int) ∈ xs := by
 rw [rd_lt xs i h]; exact List.getElem_mem h

theorem bits_xor_nat (k : IntKind) (j : Nat) (hj : j ≤ k.bits) (hk : ∀ n : Int, 0 ≤ n → n < 2 ^ j → k.wrap n = n) (a b : Nat) (ha : a < 2 ^ j) (hb : b < 2 ^ j) :
 Go.bits .xor k a b = ((a ^^^ b : Nat) : Int) := by
 have hp : 2 ^ j ≤ 2 ^ k.bits := Nat.pow_le_pow_right (by decide) hj
 have ha' : a % 2 ^ k.bits = a := Nat.mod_eq_of_lt (Nat.lt_of_lt_of_le ha hp)
 have hb' : b % 2 ^ k.bits = b := Nat.mod_eq_of_lt (Nat.lt_of_lt_of_le hb hp)
 have cast : ∀ n : Nat, n < 2 ^ j → ((n : Nat) : Int) < 2 ^ j := fun n h => by exact_mod_cast h
 simp only [Go.bits, BitVec.ofInt_natCast, BitVec.toNat_xor, BitVec.toNat_ofNat, ha', hb']
 exact hk _ (Int.natCast_nonneg _) (cast _ (Nat.xor_lt_two_pow ha hb))

theorem wrapk_i64 (j : Nat) (hj : j ≤ 63) (n : Int) (h0 : 0 ≤ n) (h1 : n < 2 ^ j) : IntKind.i64.wrap n = n := by
 have : (2 : Int) ^ j ≤ 2 ^ 63 := by
  have := Nat.pow_le_pow_right (n := 2) (by decide) hj
  exact_mod_cast this
 rw [IntKind.wrap_i64]; omega

theorem wrapk_u32 (n : Int) (h0 : 0 ≤ n) (h1 : n < 2 ^ 32) : IntKind.u32.wrap n = n := by rw [IntKind.wrap_u32]; omega

theorem xor32 (a b : Int) (ha : 0 ≤ a) (ha' : a < 4294967296) (hb : 0 ≤ b) (hb' : b < 4294967296) :
 ∃ c : Int, 0 ≤ c ∧ c < 4294967296 ∧ Go.bits .xor .i64 a b = c ∧ Go.bits .xor .u32 a b = c := by
 obtain ⟨x, rfl⟩ : ∃ x : Nat, a = (x : Int) := ⟨a.toNat, by omega⟩
 obtain ⟨y, rfl⟩ : ∃ y : Nat, b = (y : Int) := ⟨b.toNat, by omega⟩
 have hl := @Nat.xor_lt_two_pow x y 32 (by omega) (by omega)
 exact ⟨((x ^^^ y : Nat) : Int), by omega, by omega, bits_xor_nat .i64 32 (by decide) (fun n => wrapk_i64 32 (by decide) n) x y (by omega) (by omega), bits_xor_nat .u32 32 (by decide) wrapk_u32 x y (by omega) (by omega)⟩

theorem and127 (x : Int) (h0 : 0 ≤ x) (h1 : x < 256) : Go.bits .and .u8 x 127 = x % 128 := bits_mask .u8 8 (by decide) wraps_u8 7 (by decide) x h0 h1

theorem or_join (i : Nat) (hi : i ≤ 62) (x y : Int) (hx0 : 0 ≤ x) (hx : x % 2 ^ i = 0) (hx1 : x < 2 ^ 63) (hy0 : 0 ≤ y) (hy : y < 2 ^ i) : Go.bits .or .i64 x y = x + y := by
 have : (2 : Int) ^ i ≤ 2 ^ 63 := by
  have := Nat.pow_le_pow_right (n := 2) (by decide) (show i ≤ 63 by omega)
  exact_mod_cast this
 exact bits_join .i64 63 (by decide) (fun n => wrapk_i64 63 (by decide) n) i x y hx0 hx hx1 hy0 hy (by omega)

theorem or_comm64 (x y : Int) (hx : 0 ≤ x) (hx' : x < 2 ^ 63) (hy : 0 ≤ y) (hy' : y < 2 ^ 63) : Go.bits .or .i64 x y = Go.bits .or .i64 y x := by
 obtain ⟨a, rfl⟩ : ∃ a : Nat, x = (a : Int) := ⟨x.toNat, by omega⟩
 obtain ⟨b, rfl⟩ : ∃ b : Nat, y = (b : Int) := ⟨y.toNat, by omega⟩
 rw [(bits_nat .i64 63 (by decide) (fun n => wrapk_i64 63 (by decide) n) a b (by omega) (by omega)).2, (bits_nat .i64 63 (by decide) (fun n => wrapk_i64 63 (by decide) n) b a (by omega) (by omega)).2, Nat.or_comm]

set_option maxRecDepth 20000 in
theorem or128 (x : Int) (h0 : 0 ≤ x) (h1 : x < 256) : Go.bits .or .u8 x 128 = 128 + x % 128 := by
 obtain ⟨a, rfl⟩ : ∃ a : Nat, x = (a : Int) := ⟨x.toNat, by omega⟩
 have e : (128 : Int) = ((128 : Nat) : Int) := rfl
 rw [e, (bits_nat .u8 8 (by decide) wraps_u8 a 128 (by omega) (by decide)).2]
 have ha : a < 256 := by omega
 have key : ∀ n : Fin 256, (n.val ||| 128 : Nat) = 128 + n.val % 128 := by decide +kernel
 have := key ⟨a, ha⟩
 simp only at this
 rw [this]; omega

def vb : Nat → Int → List Int
 | 0, a => [a]
 | d + 1, a => if a < 128 then [a] else (128 + a % 128) :: vb d (a / 128)

theorem vb_length (d : Nat) : ∀ a, 1 ≤ (vb d a).length ∧ (vb d a).length ≤ d + 1 := by
 induction d with
 | zero => intro a; simp [vb]
 | succ d ih =>
  intro a
  unfold vb
  split
  ·simp
  ·have := ih (a / 128); simp only [List.length_cons]; omega

theorem vb_bytes (d : Nat) : ∀ a, 0 ≤ a → a < 128 ^ (d + 1) → ∀ x ∈ vb d a, 0 ≤ x ∧ x ≤ 255 := by
 induction d with
 | zero => intro a h0 h1 x hx; simp [vb] at hx h1; omega
 | succ d ih =>
  intro a h0 h1 x hx
  have es : (128 : Int) ^ (d + 1 + 1) = 128 ^ (d + 1) * 128 := Int.pow_succ _ _
  unfold vb at hx
  split at hx
  ·simp at hx; omega
  ·rcases List.mem_cons.1 hx with rfl | hx
   ·omega
   ·exact ih (a / 128) (by omega) (by rw [es] at h1; omega) x hx

theorem pow128 (d : Nat) (hd : d ≤ 8) : (128 : Int) ^ (d + 1) ≤ 9223372036854775808 := by
 have : (128 : Nat) ^ (d + 1) ≤ 128 ^ 9 := Nat.pow_le_pow_right (by decide) (by omega)
 have e9 : (128 : Nat) ^ 9 = 9223372036854775808 := by decide
 rw [e9] at this
 have h := Int.ofNat_le.2 this
 rw [Int.natCast_pow] at h
 exact h

theorem pow128_8 : (128 : Int) ^ (8 + 1) = 9223372036854775808 := rfl

theorem put_spec (f : Nat → Int → Option (List Int))
 (hs : ∀ k a0, f (k + 1) a0 = if a0 < 128 then (some (([(a0) % 256] : List Int))) else ((some (([(wrap64 (128 + (Int.tmod a0 128))) % 256] : List Int) : List Int)).bind fun y106 => ((f k (wrap64 (Int.tdiv a0 128))).bind fun t109 => (if y106.length + t109.length < 140737488355328 then (some (y106 ++ t109)) else (none)))))
 (d : Nat) (hd : d ≤ 8) : ∀ (k : Nat) (a : Int), 0 ≤ a → a < 128 ^ (d + 1) → d < k → f k a = some (vb d a) := by
 induction d with
 | zero =>
  intro k a h0 h1 hk
  obtain ⟨k, rfl⟩ : ∃ m, k = m + 1 := ⟨k - 1, by omega⟩
  simp at h1
  rw [hs, if_pos (by omega), Int.emod_eq_of_lt h0 (by omega)]; rfl
 | succ d ih =>
  intro k a h0 h1 hk
  obtain ⟨k, rfl⟩ : ∃ m, k = m + 1 := ⟨k - 1, by omega⟩
  have hp := pow128 (d + 1) hd
  have es : (128 : Int) ^ (d + 1 + 1) = 128 ^ (d + 1) * 128 := Int.pow_succ _ _
  by_cases hlt : a < 128
  ·rw [hs, if_pos hlt, Int.emod_eq_of_lt h0 (by omega)]; simp [vb, hlt]
  ·have hl := vb_length d (a / 128)
   rw [hs, if_neg hlt, Int.tdiv_eq_ediv_of_nonneg h0, Int.tmod_eq_emod_of_nonneg h0, w64 (x := a / 128) (by omega) (by omega), w64 (x := 128 + a % 128) (by omega) (by omega),
    ih (by omega) k (a / 128) (by omega) (by rw [es] at h1; omega) (by omega)]
   simp only [Option.bind_some]
   rw [if_pos (by simp; omega), Int.emod_eq_of_lt (by omega) (by omega)]
   simp [vb, hlt]

theorem put_impl (f : Nat → List Int → Int → Option (List Int))
 (hs : ∀ k x0 x1, f (k + 1) x0 x1 = if x1 ≥ 128 then (if x0.length < 140737488355328 then (f k (x0 ++ [Go.bits .or .u8 ((x1) % 256) 128]) (x1 / 128)) else (none)) else (if x0.length < 140737488355328 then (some (x0 ++ [(x1) % 256])) else (none)))
 (d : Nat) (hd : d ≤ 8) : ∀ (k : Nat) (pre : List Int) (a : Int), pre.length + d < 140737488355328 → 0 ≤ a → a < 128 ^ (d + 1) → d < k → f k pre a = some (pre ++ vb d a) := by
 induction d with
 | zero =>
  intro k pre a hpre h0 h1 hk
  obtain ⟨k, rfl⟩ : ∃ m, k = m + 1 := ⟨k - 1, by omega⟩
  simp at h1
  rw [hs, if_neg (by omega), if_pos (by omega), Int.emod_eq_of_lt h0 (by omega)]; rfl
 | succ d ih =>
  intro k pre a hpre h0 h1 hk
  obtain ⟨k, rfl⟩ : ∃ m, k = m + 1 := ⟨k - 1, by omega⟩
  have es : (128 : Int) ^ (d + 1 + 1) = 128 ^ (d + 1) * 128 := Int.pow_succ _ _
  by_cases hlt : a < 128
  ·rw [hs, if_neg (by omega), if_pos (by omega), Int.emod_eq_of_lt h0 (by omega)]; simp [vb, hlt]
  ·rw [hs, if_pos (by omega), if_pos (by omega), or128 _ (by omega) (by omega), ih (by omega) k _ (a / 128) (by simp; omega) (by omega) (by rw [es] at h1; omega) (by omega)]
   have e : a % 256 % 128 = a % 128 := by omega
   rw [e]; simp [vb, hlt]

end Go.Proofs.Ytnpdmleglcbobaa.Kit
