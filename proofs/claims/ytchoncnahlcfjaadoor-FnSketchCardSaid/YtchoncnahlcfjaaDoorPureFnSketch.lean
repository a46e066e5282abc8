/- Whatever the code, the program's sketch of what is drawn of it is the reference's; it does not change where a text is told twice and in another order, the sketches of its two parts make it again when joined, no part's register is above it, and what it counts is what the reference counts: the law answers true. No condition. -/
import Derived.Test.YtchoncnahlcfjaaDoorXFnSketchx8
import Derived.Test.YtchoncnahlcfjaaDoorKit
import Derived.Lib.ItoaNum
import Derived.Lib.Bytes
import Derived.Test.YtchoncnahlcfjaaDoorWfFnSketch
set_option linter.unusedSimpArgs false
set_option linter.unusedVariables false
namespace Go.Proofs.YtchoncnahlcfjaaDoor.Pure
open Go.RowKit Go.Proofs.YtchoncnahlcfjaaDoor.XFnSketch Go.Proofs.YtchoncnahlcfjaaDoorW.PrintWords Go.Proofs.YtchoncnahlcfjaaDoorW.PrintLast Go.Proofs.YtchoncnahlcfjaaDoorW.PrintMore Go.Proofs.YtchoncnahlcfjaaDoor.Kit

theorem Ev.steps {α : Type} {g f : Nat → Option α} {r : α} (c : Nat) (h : ∀ k, g (k + c) = f k) (k : Ev f r) : Ev g r := by
  obtain ⟨K, hK⟩ := k
  refine ⟨K + c, fun n hn => ?_⟩
  have := h (n - c)
  rw [Nat.sub_add_cancel (by omega)] at this
  rw [this]; exact hK _ (by omega)

theorem Ev.pos {α : Type} {c : Prop} [Decidable c] {f g : Nat → Option α} {r : α} (h : c) (k : Ev f r) : Ev (fun n => if c then f n else g n) r := Ev.congr (fun n => if_pos h) k
theorem Ev.neg {α : Type} {c : Prop} [Decidable c] {f g : Nat → Option α} {r : α} (h : ¬ c) (k : Ev g r) : Ev (fun n => if c then f n else g n) r := Ev.congr (fun n => if_neg h) k
theorem Ev.ofEq {α : Type} {x : Option α} {r : α} (h : x = some r) : Ev (fun _ => x) r := ⟨0, fun _ _ => h⟩
theorem Ev.from {α : Type} {g : Nat → Option α} {r : α} (K : Nat) (h : ∀ k, K < k → g k = some r) : Ev g r := ⟨K + 1, fun k hk => h k (by omega)⟩

/-! ### The drawer of drawn inputs: what its bytes and numbers are -/
def BytesOK (s : List Int) : Prop := s.length ≤ 1048576 ∧ ∀ i, i < s.length → 0 ≤ s.getD i 0 ∧ s.getD i 0 ≤ 255
def SeedOK (q : Int) : Prop := 0 ≤ q ∧ q < 2147483648
theorem src_byte (s : List Int) (hs : BytesOK s) (at_ q : Int) (h0 : 0 ≤ at_) (h1 : at_ ≤ 1000000000000) (hq : SeedOK q) :
    ∃ v q', spec_l01Src_byte.f s at_ q = some (v, at_ + 1, q') ∧ 0 ≤ v ∧ v ≤ 255 ∧ SeedOK q' := by
  obtain ⟨q0, q1⟩ := hq
  have e1 : Aside0 (wrap64 (at_ + 1) = at_ + 1) := ⟨w64 (by omega) (by omega)⟩
  have e2 : Aside0 (wrap64 (at_ + 1 - 1) = at_) := ⟨by rw [w64 (by omega) (by omega)]; omega⟩
  have hl := hs.1
  unfold spec_l01Src_byte.f
  rw [e1.out, e2.out]
  by_cases c : at_ + 1 ≤ (s.length : Int)
  · rw [if_pos c, if_pos h0, if_pos (by omega)]
    obtain ⟨n, rfl⟩ : ∃ n : Nat, at_ = n := ⟨at_.toNat, by omega⟩
    obtain ⟨b0, b1⟩ := hs.2 n (by omega)
    rw [rd_nat]
    generalize s.getD n 0 = b at *
    have e3 : Aside0 (wrap64 b = b) := ⟨w64 (by omega) (by omega)⟩
    have e4 : Aside0 (wrap64 (q * 31) = q * 31) := ⟨w64 (by omega) (by omega)⟩
    have e5 : Aside0 (wrap64 (q * 31 + b) = q * 31 + b) := ⟨w64 (by omega) (by omega)⟩
    have e6 : Aside0 (wrap64 (q * 31 + b + 7) = q * 31 + b + 7) := ⟨w64 (by omega) (by omega)⟩
    rw [e3.out, e4.out, e5.out, e6.out, Int.tmod_eq_emod_of_nonneg (by omega)]
    exact ⟨_, _, rfl, b0, b1, by omega, by omega⟩
  · rw [if_neg c]
    by_cases c2 : at_ + 1 > wrap64 (4000 + wrap64 (4 * (s.length : Int)))
    · rw [if_pos c2]; exact ⟨_, _, rfl, by omega, by omega, q0, q1⟩
    · rw [if_neg c2]
      have e4 : Aside0 (wrap64 (q * 1103515245) = q * 1103515245) := ⟨w64 (by omega) (by omega)⟩
      have e5 : Aside0 (wrap64 (q * 1103515245 + 12345) = q * 1103515245 + 12345) := ⟨w64 (by omega) (by omega)⟩
      rw [e4.out, e5.out, Int.tmod_eq_emod_of_nonneg (a := q * 1103515245 + 12345) (by omega)]
      generalize hz : (q * 1103515245 + 12345) % 2147483648 = z
      have z0 : 0 ≤ z := by omega
      have z1 : z < 2147483648 := by omega
      clear hz e4 e5 c2
      have e7 : Aside0 (wrap64 (Int.tdiv z 65536) = z / 65536) := ⟨by rw [Int.tdiv_eq_ediv_of_nonneg z0, w64 (by omega) (by omega)]⟩
      rw [e7.out, Int.tmod_eq_emod_of_nonneg (by omega)]
      exact ⟨_, _, rfl, by omega, by omega, z0, z1⟩
theorem src_next (s : List Int) (hs : BytesOK s) (at_ q n : Int) (h0 : 0 ≤ at_) (h1 : at_ ≤ 100000000000) (hq : SeedOK q) (hn : 1 ≤ n) :
    ∃ v a' q', spec_l01Src_next.f s at_ q n = some (v, a', q') ∧ 0 ≤ v ∧ v < n ∧ at_ ≤ a' ∧ a' ≤ at_ + 3 ∧ SeedOK q' := by
  unfold spec_l01Src_next.f
  by_cases c1 : n ≤ 1
  · rw [if_pos c1]; exact ⟨_, _, _, rfl, by omega, by omega, by omega, by omega, hq⟩
  · rw [if_neg c1]
    obtain ⟨v1, q1, e1, b1, d1, hq1⟩ := src_byte s hs at_ q h0 (by omega) hq
    rw [e1]
    by_cases c2 : n ≤ 256
    · rw [if_pos c2, Option.bind_some, if_neg (by omega)]
      simp only
      rw [Int.tmod_eq_emod_of_nonneg b1]
      exact ⟨_, _, _, rfl, Int.emod_nonneg _ (by omega), Int.emod_lt_of_pos _ (by omega), by omega, by omega, hq1⟩
    · obtain ⟨v2, q2, e2, b2, d2, hq2⟩ := src_byte s hs (at_ + 1) q1 (by omega) (by omega) hq1
      obtain ⟨v3, q3, e3, b3, d3, hq3⟩ := src_byte s hs (at_ + 1 + 1) q2 (by omega) (by omega) hq2
      rw [if_neg c2]
      simp only [Option.bind_some]
      rw [e2]
      simp only [Option.bind_some]
      rw [e3]
      simp only [Option.bind_some]
      rw [if_neg (by omega)]
      have w1 : Aside0 (wrap64 (v1 * 65536) = v1 * 65536) := ⟨w64 (by omega) (by omega)⟩
      have w2 : Aside0 (wrap64 (v2 * 256) = v2 * 256) := ⟨w64 (by omega) (by omega)⟩
      have w3 : Aside0 (wrap64 (v1 * 65536 + v2 * 256) = v1 * 65536 + v2 * 256) := ⟨w64 (by omega) (by omega)⟩
      have w4 : Aside0 (wrap64 (v1 * 65536 + v2 * 256 + v3) = v1 * 65536 + v2 * 256 + v3) := ⟨w64 (by omega) (by omega)⟩
      rw [w1.out, w2.out, w3.out, w4.out, Int.tmod_eq_emod_of_nonneg (by omega)]
      exact ⟨_, _, _, rfl, Int.emod_nonneg _ (by omega), Int.emod_lt_of_pos _ (by omega), by omega, by omega, hq3⟩
theorem src_start (l : List Int) (h : l.length ≤ 1048576) : ∃ q, spec_l01Source.f l = some (l, 0, q) ∧ SeedOK q := by
  unfold spec_l01Source.f
  exact ⟨_, rfl, by omega, by omega⟩

/-! ### A drawn word, a drawn number's text -/
theorem word_ex (s : List Int) (hs : BytesOK s) (at_ q : Int) (h0 : 0 ≤ at_) (h1 : at_ ≤ 10000000000) (hq : SeedOK q) :
    ∃ t a' q', spec_l01Src_word.f s at_ q = some (t, a', q') ∧ t.size ≤ 8 ∧ 0 ≤ a' ∧ a' ≤ at_ + 3 ∧ SeedOK q' := by
  unfold spec_l01Src_word.f
  rw [Option.bind_some]
  generalize hy : ([(⟨#[114, 117, 110]⟩ : ByteArray), (⟨#[114, 117, 110, 110, 105, 110, 103]⟩ : ByteArray), (⟨#[114, 117, 110, 115]⟩ : ByteArray), (⟨#[114, 97, 110]⟩ : ByteArray), (⟨#[99, 97, 116]⟩ : ByteArray), (⟨#[99, 97, 116, 115]⟩ : ByteArray), (⟨#[116, 104, 101]⟩ : ByteArray), (⟨#[111, 102]⟩ : ByteArray), (⟨#[104, 111, 117, 115, 101]⟩ : ByteArray), (⟨#[104, 111, 117, 115, 101, 115]⟩ : ByteArray), (⟨#[113, 117, 105, 99, 107]⟩ : ByteArray), (⟨#[102, 111, 120]⟩ : ByteArray), (⟨#[105, 116, 39, 115]⟩ : ByteArray), (⟨#[120, 95, 49]⟩ : ByteArray), (⟨#[195, 156, 98, 101, 114]⟩ : ByteArray), (⟨#[99, 97, 102, 195, 169]⟩ : ByteArray), (⟨#[67, 97, 116]⟩ : ByteArray), (⟨#[52, 50]⟩ : ByteArray), (⟨#[55]⟩ : ByteArray), (⟨#[208, 150, 97, 114]⟩ : ByteArray), (⟨#[228, 184, 173]⟩ : ByteArray), (⟨#[206, 169, 109, 101, 103, 97]⟩ : ByteArray), (⟨#[115, 116, 111, 112, 112, 101, 100]⟩ : ByteArray), (⟨#[113, 117, 105, 99, 107, 108, 121]⟩ : ByteArray), (⟨#[108, 97, 100, 105, 101, 115]⟩ : ByteArray)] : List ByteArray) = y
  have hz : ∀ x ∈ y, x.size ≤ 8 := by rw [← hy]; decide
  have hl : y.length = 25 := by rw [← hy]; rfl
  clear hy
  obtain ⟨v, a', q', e, b0, b1, b2, b3, hq'⟩ := src_next s hs at_ q (y.length : Int) h0 (by omega) hq (by omega)
  rw [e, Option.bind_some]
  simp only
  rw [if_pos b0, if_pos b1]
  refine ⟨_, _, _, rfl, ?_, by omega, b3, hq'⟩
  obtain ⟨i, rfl⟩ : ∃ i : Nat, v = i := ⟨v.toNat, by omega⟩
  have hi : i < y.length := by omega
  rw [rdOf, Int.toNat_natCast, List.getD_eq_getElem?_getD, List.getElem?_eq_getElem hi]
  exact hz _ (List.getElem_mem hi)
theorem dec1 (n : Int) (h0 : 0 ≤ n) (h1 : n < 10) (k : Nat) : ∃ t, spec_l08Dec.f (k + 1) n = some t ∧ t.size = 1 := by
  rw [spec_l08Dec.f, if_neg (by omega), if_pos h1]
  exact ⟨_, rfl, by simp [strOfNums, ByteArray.size]⟩
theorem dec2 (n : Int) (h0 : 0 ≤ n) (h1 : n < 100) : ∃ t, (∀ k, spec_l08Dec.f (k + 2) n = some t) ∧ t.size ≤ 2 := by
  by_cases c : n < 10
  · obtain ⟨t, e, hs⟩ := dec1 n h0 c 0
    refine ⟨t, fun k => ?_, by omega⟩
    rw [spec_l08Dec.f, if_neg (by omega), if_pos c] at e ⊢
    exact e
  · have e1 : wrap64 (Int.tdiv n 10) = n / 10 := by rw [Int.tdiv_eq_ediv_of_nonneg h0, w64 (by omega) (by omega)]
    obtain ⟨t, e, hs⟩ := dec1 (n / 10) (by omega) (by omega) 0
    have e' : ∀ k, spec_l08Dec.f (k + 1) (n / 10) = some t := by
      intro k
      rw [spec_l08Dec.f, if_neg (by omega), if_pos (by omega)] at e ⊢
      exact e
    generalize hy : (strOfNums ([(wrap64 (48 + (Int.tmod n 10))) % 256] : List Int)) = y
    have hz : y.size = 1 := by rw [← hy]; simp [strOfNums, ByteArray.size]
    refine ⟨t ++ y, fun k => ?_, by rw [ByteArray.size_append]; omega⟩
    rw [spec_l08Dec.f, if_neg (by omega), if_neg c, e1, e' k]
    simp only [Option.bind_some]
    rw [hy, if_pos (by omega)]


/-! ### A sketch of texts: the reference's marks of a text and the program's -/
theorem bytes_in (s : ByteArray) : ∀ x ∈ bytesOf s, 0 ≤ x ∧ x ≤ 255 := by
  intro x hx
  obtain ⟨b, _, rfl⟩ := List.mem_map.1 hx
  have := UInt8.toNat_lt b
  omega
theorem sumE (xs : List Int) (hn : xs.length ≤ 1048576) (hb : ∀ x ∈ xs, 0 ≤ x ∧ x ≤ 255) (d : Nat) : ∀ (i : Nat) (h : Int), i + d = xs.length → 0 ≤ h → h < 4294967296 →
    ∃ r : Int, (0 ≤ r ∧ r < 4294967296) ∧ Ev (fun k => spec_Sum32.l0 k xs h i) r ∧ Ev (fun k => impl_Sum32.l0 k h xs (xs.length : Int) i) r := by
  induction d with
  | zero =>
    intro i h hi h0 h1
    refine ⟨h, ⟨h0, h1⟩, Ev.step (fun k => ?_) (Ev.now _), Ev.step (fun k => ?_) (Ev.now _)⟩
    · rw [spec_Sum32.l0, if_neg (by omega)]
    · rw [impl_Sum32.l0, if_neg (by omega), w64 (by omega) (by omega)]
  | succ d ih =>
    intro i h hi h0 h1
    have hr := hb _ (rd_mem xs i (by omega))
    obtain ⟨c, hc0, hc1, e1, e2⟩ := xor32 h (rd xs i) h0 h1 hr.1 (by omega)
    have e : ((i : Int) + 1) = ((i + 1 : Nat) : Int) := by omega
    obtain ⟨r, hr', hs, hi'⟩ := ih (i + 1) ((c * 16777619) % 4294967296) (by omega) (by omega) (by omega)
    refine ⟨r, hr', Ev.step (fun k => ?_) hs, Ev.step (fun k => ?_) hi'⟩
    · rw [spec_Sum32.l0, if_pos (by omega), if_pos (by omega), w64 (x := rd xs i) (by omega) (by omega), e1, w64 (x := c * 16777619) (by omega) (by omega), w64 (by omega) (by omega), e,
        Int.tmod_eq_emod_of_nonneg (by omega)]
    · rw [impl_Sum32.l0, if_pos (by omega), if_pos (by omega), if_pos (by omega), Int.emod_eq_of_lt hr.1 (by omega), e2, w64 (by omega) (by omega), e]
theorem sum_ev (s : ByteArray) : ∃ r : Int, (0 ≤ r ∧ r < 4294967296) ∧ Ev (fun k => spec_Sum32.f k (bytesOf s)) r ∧ Ev (fun k => impl_Sum32.f k (bytesOf s)) r := by
  unfold spec_Sum32.f impl_Sum32.f
  by_cases h : ((bytesOf s).length : Int) > 1048576
  · exact ⟨0, ⟨by omega, by omega⟩, Ev.pos h (Ev.now _), Ev.pos h (Ev.now _)⟩
  · obtain ⟨r, hr, h1, h2⟩ := sumE (bytesOf s) (by omega) (bytes_in s) (bytesOf s).length 0 2166136261 (by omega) (by omega) (by omega)
    exact ⟨r, hr, Ev.neg h h1, Ev.neg h h2⟩
theorem stir_eq (t : Int) (h0 : 0 ≤ t) (h1 : t < 4294967296) : ∃ c : Nat, c < 4294967296 ∧
    (Go.bits .xor .i64 (Int.tmod (wrap64 ((Go.bits .xor .i64 t (wrap64 (Int.tdiv t 65536))) * 2146121005)) 4294967296) (wrap64 (Int.tdiv (Int.tmod (wrap64 ((Go.bits .xor .i64 t (wrap64 (Int.tdiv t 65536))) * 2146121005)) 4294967296) 8192))) = (c : Int) ∧
    (Go.bits .xor .u32 (((Go.bits .xor .u32 ((t) % 4294967296) (((t) % 4294967296) / 65536)) * 2146121005) % 4294967296) ((((Go.bits .xor .u32 ((t) % 4294967296) (((t) % 4294967296) / 65536)) * 2146121005) % 4294967296) / 8192)) = (c : Int) := by
  rw [Int.emod_eq_of_lt h0 h1, Int.tdiv_eq_ediv_of_nonneg h0, w64 (x := t / 65536) (by omega) (by omega)]
  obtain ⟨a, a0, a1, e1, e2⟩ := xor32 t (t / 65536) h0 h1 (by omega) (by omega)
  rw [e1, e2, w64 (x := a * 2146121005) (by omega) (by omega), Int.tmod_eq_emod_of_nonneg (by omega)]
  generalize hb : a * 2146121005 % 4294967296 = b
  have b0 : 0 ≤ b := by omega
  have b1 : b < 4294967296 := by omega
  rw [Int.tdiv_eq_ediv_of_nonneg b0, w64 (x := b / 8192) (by omega) (by omega)]
  obtain ⟨c, c0, c1, g1, g2⟩ := xor32 b (b / 8192) b0 b1 (by omega) (by omega)
  rw [g1, g2]
  exact ⟨c.toNat, by omega, by omega, by omega⟩
theorem ctz_fuel : ∀ (f x : Nat), 0 < x → x < 2 ^ f → Lib.ctzFrom (f + 1) x = Lib.ctzFrom f x := by
  intro f
  induction f with
  | zero => intro x h0 h1; simp at h1; omega
  | succ f ih =>
    intro x h0 h1
    rw [Nat.pow_succ] at h1
    show (if x % 2 = 1 then 0 else 1 + Lib.ctzFrom (f + 1) (x / 2)) = (if x % 2 = 1 then 0 else 1 + Lib.ctzFrom f (x / 2))
    by_cases c : x % 2 = 1
    · rw [if_pos c, if_pos c]
    · rw [if_neg c, if_neg c, ih (x / 2) (by omega) (by omega)]
theorem ctz_more (n f x : Nat) (h0 : 0 < x) (h1 : x < 2 ^ f) : Lib.ctzFrom (f + n) x = Lib.ctzFrom f x := by
  induction n with
  | zero => rfl
  | succ n ih =>
    rw [← Nat.add_assoc, ctz_fuel (f + n) x h0 (Nat.lt_of_lt_of_le h1 (Nat.pow_le_pow_right (by omega) (by omega))), ih]
theorem rank_ev (d : Nat) : ∀ i q : Nat, i + d = 25 → q < 2 ^ d → Ev (fun k => spec_l17Rank.l0 k (q : Int) (i : Int)) (if q = 0 then 25 else ((i + Lib.ctzFrom d q : Nat) : Int)) := by
  induction d with
  | zero =>
    intro i q hi hq
    have : q = 0 := by simp at hq; exact hq
    rw [if_pos this]
    refine Ev.step (fun k => ?_) (Ev.now _)
    rw [spec_l17Rank.l0, if_neg (by omega), show (i : Int) = 25 by omega]
  | succ d ih =>
    intro i q hi hq
    rw [Nat.pow_succ] at hq
    have e1 : Int.tmod (q : Int) 2 = ((q % 2 : Nat) : Int) := by rw [Int.tmod_eq_emod_of_nonneg (by omega)]; omega
    have e2 : wrap64 (Int.tdiv (q : Int) 2) = ((q / 2 : Nat) : Int) ∨ 9223372036854775807 < q := by
      by_cases h : q ≤ 9223372036854775807
      · left; rw [Int.tdiv_eq_ediv_of_nonneg (by omega), w64 (by omega) (by omega)]; omega
      · right; omega
    have hp : 2 ^ d ≤ 2 ^ 25 := Nat.pow_le_pow_right (by omega) (by omega)
    have e2 : wrap64 (Int.tdiv (q : Int) 2) = ((q / 2 : Nat) : Int) := e2.resolve_right (by omega)
    have e3 : wrap64 ((i : Int) + 1) = ((i + 1 : Nat) : Int) := by rw [w64 (by omega) (by omega)]; omega
    rw [Lib.ctzFrom]
    by_cases c : q % 2 = 1
    · rw [if_neg (by omega), if_pos c]
      refine Ev.step (fun k => ?_) (Ev.now _)
      rw [spec_l17Rank.l0, if_pos (by omega), e1, if_neg (by omega), Nat.add_zero]
    · have h := ih (i + 1) (q / 2) (by omega) (by omega)
      rw [show (if q = 0 then (25 : Int) else ((i + (if q % 2 = 1 then 0 else 1 + Lib.ctzFrom d (q / 2)) : Nat) : Int)) = (if q / 2 = 0 then 25 else ((i + 1 + Lib.ctzFrom d (q / 2) : Nat) : Int)) by
        rw [if_neg c]
        by_cases c0 : q = 0
        · rw [if_pos c0, if_pos (by omega)]
        · rw [if_neg c0, if_neg (by omega)]; omega]
      refine Ev.step (fun k => ?_) h
      rw [spec_l17Rank.l0, if_pos (by omega), e1, if_pos (by omega), e2, e3]
/-- A text's number and its rank, as both tell it. -/
theorem text_ev (s : ByteArray) (hs : s.size ≤ 9223372036854775807) : ∃ (c : Nat) (t : Int) (m : Int), (0 ≤ m ∧ m ≤ 25) ∧ Ev (fun k => spec_l17Stir.f k s) (c : Int) ∧ Ev (fun k => spec_l17Rank.f k (c : Int)) m ∧ Ev (fun k => impl_Sum32.f k (bytesOf s)) t ∧
    (Go.bits .xor .u32 (((Go.bits .xor .u32 ((t) % 4294967296) (((t) % 4294967296) / 65536)) * 2146121005) % 4294967296) ((((Go.bits .xor .u32 ((t) % 4294967296) (((t) % 4294967296) / 65536)) * 2146121005) % 4294967296) / 8192)) = (c : Int) ∧
    ((Int.tdiv (c : Int) 256) % 4294967296 = 0 ∧ m = 25 ∨ ¬ (Int.tdiv (c : Int) 256) % 4294967296 = 0 ∧ ∃ z, bits_TrailingZeros32.f ((Int.tdiv (c : Int) 256) % 4294967296) = some z ∧ wrap64 (1 + z) = m) := by
  obtain ⟨t, ⟨t0, t1⟩, hs1, hi1⟩ := sum_ev s
  obtain ⟨c, hc, g1, g2⟩ := stir_eq t t0 t1
  have e1 : Int.tdiv (c : Int) 256 = ((c / 256 : Nat) : Int) := by rw [Int.tdiv_eq_ediv_of_nonneg (by omega)]; omega
  have e2 : ((c / 256 : Nat) : Int) % 4294967296 = ((c / 256 : Nat) : Int) := Int.emod_eq_of_lt (by omega) (by omega)
  have hq : c / 256 < 2 ^ 24 := by omega
  have hr := rank_ev 24 1 (c / 256) (by omega) hq
  have e3 : wrap64 ((c / 256 : Nat) : Int) = ((c / 256 : Nat) : Int) := w64 (by omega) (by omega)
  refine ⟨c, t, (if c / 256 = 0 then 25 else ((1 + Lib.ctzFrom 24 (c / 256) : Nat) : Int)), ?_, ?_, ?_, hi1, g2, ?_⟩
  · by_cases c0 : c / 256 = 0
    · rw [if_pos c0]; omega
    · obtain ⟨_, _, hk⟩ := Lib.ctzFrom_spec 24 (c / 256) (by omega) hq
      rw [if_neg c0]; omega
  · unfold spec_l17Stir.f
    refine Ev.pos hs (Ev.bind hs1 ?_)
    rw [g1]; exact Ev.now _
  · unfold spec_l17Rank.f
    rw [e1, e3]; exact hr
  · rw [e1, e2]
    by_cases c0 : c / 256 = 0
    · left; exact ⟨by omega, if_pos c0⟩
    · right
      refine ⟨by omega, ((Lib.ctz 32 (c / 256) : Nat) : Int), ?_, ?_⟩
      · unfold bits_TrailingZeros32.f
        rw [if_pos (by omega), if_pos (by omega), Int.toNat_natCast]
      · rw [if_neg c0]
        have hz : Lib.ctz 32 (c / 256) = Lib.ctzFrom 24 (c / 256) := by
          unfold Lib.ctz; rw [if_neg c0]; exact ctz_more 8 24 (c / 256) (by omega) hq
        obtain ⟨_, _, hk⟩ := Lib.ctzFrom_spec 24 (c / 256) (by omega) hq
        rw [hz, w64 (by omega) (by omega)]; omega


/-! ### A sketch as a fold: each register is the highest rank of its texts -/
def MarkOK (s : ByteArray) (p : Nat × Int) : Prop := p.1 < 256 ∧ 0 ≤ p.2 ∧ p.2 ≤ 25 ∧ (s.size ≤ 9223372036854775807 → ∃ (c : Nat) (t : Int), c % 256 = p.1 ∧ Ev (fun k => spec_l17Stir.f k s) (c : Int) ∧ Ev (fun k => spec_l17Rank.f k (c : Int)) p.2 ∧ Ev (fun k => impl_Sum32.f k (bytesOf s)) t ∧
    (Go.bits .xor .u32 (((Go.bits .xor .u32 ((t) % 4294967296) (((t) % 4294967296) / 65536)) * 2146121005) % 4294967296) ((((Go.bits .xor .u32 ((t) % 4294967296) (((t) % 4294967296) / 65536)) * 2146121005) % 4294967296) / 8192)) = (c : Int) ∧
    ((Int.tdiv (c : Int) 256) % 4294967296 = 0 ∧ p.2 = 25 ∨ ¬ (Int.tdiv (c : Int) 256) % 4294967296 = 0 ∧ ∃ z, bits_TrailingZeros32.f ((Int.tdiv (c : Int) 256) % 4294967296) = some z ∧ wrap64 (1 + z) = p.2))
theorem mark_ex (s : ByteArray) : ∃ p : Nat × Int, MarkOK s p := by
  by_cases hs : s.size ≤ 9223372036854775807
  · obtain ⟨c, t, m, ⟨m0, m1⟩, h1, h2, h3, h4, h5⟩ := text_ev s hs
    exact ⟨(c % 256, m), Nat.mod_lt _ (by omega), m0, m1, fun _ => ⟨c, t, rfl, h1, h2, h3, h4, h5⟩⟩
  · exact ⟨(0, 0), by decide, by decide, by decide, fun h => absurd h hs⟩
noncomputable def markOf (s : ByteArray) : Nat × Int := Classical.choose (mark_ex s)
theorem mark_is (s : ByteArray) : MarkOK s (markOf s) := Classical.choose_spec (mark_ex s)
noncomputable def put (x : List Int) (s : ByteArray) : List Int := x.set (markOf s).1 (mx (x.getD (markOf s).1 0) (markOf s).2)
noncomputable def sk (l : List ByteArray) (x : List Int) : List Int := l.foldl put x
theorem put_length (x : List Int) (s : ByteArray) : (put x s).length = x.length := List.length_set
theorem sk_length (l : List ByteArray) : ∀ x : List Int, (sk l x).length = x.length := by
  induction l with
  | nil => intro x; rfl
  | cons s l ih => intro x; show (sk l (put x s)).length = _; rw [ih, put_length]
noncomputable def hiR (j : Nat) : List ByteArray → Int
  | [] => 0
  | s :: l => if (markOf s).1 = j then (if hiR j l < (markOf s).2 then (markOf s).2 else hiR j l) else hiR j l
theorem hiR_bounds (j : Nat) (l : List ByteArray) : 0 ≤ hiR j l ∧ hiR j l ≤ 25 := by
  induction l with
  | nil => exact ⟨by show (0 : Int) ≤ 0; omega, by show (0 : Int) ≤ 25; omega⟩
  | cons s l ih =>
    obtain ⟨h1, h2, h3, _⟩ := mark_is s
    have h2' : 0 ≤ (markOf s).2 := h2
    have h3' : (markOf s).2 ≤ 25 := h3
    rw [hiR]; split
    · split <;> omega
    · exact ih
theorem hiR_append (j : Nat) (a b : List ByteArray) : hiR j (a ++ b) = if hiR j a < hiR j b then hiR j b else hiR j a := by
  induction a with
  | nil =>
    have := (hiR_bounds j b).1
    rw [List.nil_append, show hiR j [] = 0 from rfl]; split <;> omega
  | cons s a ih =>
    rw [List.cons_append, hiR, hiR, ih]
    generalize (markOf s).2 = m
    generalize hiR j a = x
    generalize hiR j b = y
    repeat' split
    all_goals omega
theorem hiR_one (j : Nat) (s : ByteArray) : hiR j [s] = if (markOf s).1 = j then (if 0 < (markOf s).2 then (markOf s).2 else 0) else 0 := rfl
theorem hiR_cons (j : Nat) (s : ByteArray) (l : List ByteArray) : hiR j (s :: l) = if (markOf s).1 = j then (if hiR j l < (markOf s).2 then (markOf s).2 else hiR j l) else hiR j l := rfl
theorem hiR_reverse (j : Nat) (l : List ByteArray) : hiR j l.reverse = hiR j l := by
  induction l with
  | nil => rfl
  | cons s l ih =>
    have h0 := (hiR_bounds j l).1
    have h1 : 0 ≤ (markOf s).2 := (mark_is s).2.1
    rw [List.reverse_cons, hiR_append, ih, hiR_one, hiR_cons]
    generalize (markOf s).2 = m at *
    generalize hiR j l = x at *
    repeat' split
    all_goals omega
theorem hiR_mem (j : Nat) (l : List ByteArray) (s : ByteArray) (h : s ∈ l) : hiR j [s] ≤ hiR j l := by
  obtain ⟨a, b, rfl⟩ := List.append_of_mem h
  have e : hiR j (a ++ s :: b) = if hiR j a < hiR j (s :: b) then hiR j (s :: b) else hiR j a := hiR_append j a (s :: b)
  have h0 := (hiR_bounds j a).1
  have h1 := (hiR_bounds j b).1
  rw [e]
  rw [hiR_one, hiR_cons]
  generalize (markOf s).2 = m at *
  generalize hiR j a = x at *
  generalize hiR j b = y at *
  repeat' split
  all_goals omega
theorem put_get (x : List Int) (hx : x.length = 256) (s : ByteArray) (j : Nat) (hj : j < 256) : (put x s).getD j 0 = if (markOf s).1 = j then mx (x.getD j 0) (markOf s).2 else x.getD j 0 := by
  have h0 : (markOf s).1 < 256 := (mark_is s).1
  unfold put
  by_cases c : (markOf s).1 = j
  · rw [if_pos c, c, Kit.getD_set_eq x j _ (by omega)]
  · rw [if_neg c, Kit.getD_set_ne x _ j _ c]
theorem sk_get (l : List ByteArray) : ∀ x : List Int, x.length = 256 → (∀ j, j < 256 → 0 ≤ x.getD j 0) → ∀ j, j < 256 → (sk l x).getD j 0 = if x.getD j 0 < hiR j l then hiR j l else x.getD j 0 := by
  induction l with
  | nil =>
    intro x hx h0 j hj
    have := h0 j hj
    show x.getD j 0 = if x.getD j 0 < 0 then 0 else x.getD j 0
    rw [if_neg (by omega)]
  | cons s l ih =>
    intro x hx h0 j hj
    have hm : 0 ≤ (markOf s).2 := (mark_is s).2.1
    have hp : ∀ j, j < 256 → 0 ≤ (put x s).getD j 0 := by
      intro j hj
      have := h0 j hj
      rw [put_get x hx s j hj]; unfold mx
      repeat' split
      all_goals omega
    show (sk l (put x s)).getD j 0 = _
    rw [ih (put x s) ((put_length x s).trans hx) hp j hj, put_get x hx s j hj, hiR]
    have h1 := h0 j hj
    have h2 := (hiR_bounds j l).1
    unfold mx
    generalize (markOf s).2 = m at *
    generalize hiR j l = y at *
    generalize x.getD j 0 = z at *
    repeat' split
    all_goals omega
theorem big_ev (l : List ByteArray) (hn : l.length ≤ 1048576) (d : Nat) : ∀ (i : Nat) (x : List Int), i + d = l.length → x.length = 256 → (∃ j : Nat, i ≤ j ∧ j < l.length ∧ (65536 : Int) < ((rdOf ByteArray.empty l (j : Int)).size : Int)) → Ev (fun k => spec_SketchOf.l0 k l (i : Int) x) (([] : List Int), 2) := by
  induction d with
  | zero => rintro i x hi hx ⟨j, h1, h2, _⟩; omega
  | succ d ih =>
    rintro i x hi hx ⟨j, h1, h2, h3⟩
    have e1 : wrap64 ((i : Int) + 1) = ((i + 1 : Nat) : Int) := by rw [w64 (by omega) (by omega)]; omega
    by_cases c : ((rdOf ByteArray.empty l (i : Int)).size : Int) > 65536
    · exact Ev.step (fun k => by rw [spec_SketchOf.l0]) (Ev.pos (by omega) (Ev.pos (by omega) (Ev.pos c (Ev.now _))))
    · obtain ⟨n, t, m, _, hs, hr, _⟩ := text_ev (rdOf ByteArray.empty l (i : Int)) (by omega)
      have hne : i ≠ j := by rintro rfl; omega
      have hi0 : Int.tmod (n : Int) 256 = ((n % 256 : Nat) : Int) := by rw [Int.tmod_eq_emod_of_nonneg (by omega)]; omega
      refine Ev.step (fun k => by rw [spec_SketchOf.l0]) ?_
      refine Ev.pos (by omega) (Ev.pos (by omega) (Ev.neg c ?_))
      refine Ev.bind hs ?_
      refine Ev.pos (by omega) (Ev.pos (by omega) ?_)
      refine Ev.bind hr ?_
      rw [e1]
      exact ih (i + 1) _ (by omega) (by rw [List.length_set]; exact hx) ⟨j, by omega, h2, h3⟩
theorem rdS_get (l : List ByteArray) (j : Nat) (h : j < l.length) : rdOf ByteArray.empty l (j : Int) = l[j] := by
  rw [rdOf, Int.toNat_natCast, List.getD_eq_getElem?_getD, List.getElem?_eq_getElem h]; rfl
theorem fold_ev (l : List ByteArray) (hn : l.length ≤ 1048576) (hb : ∀ j : Nat, j < l.length → ¬ (65536 : Int) < ((rdOf ByteArray.empty l (j : Int)).size : Int)) (d : Nat) : ∀ (i : Nat) (x : List Int), i + d = l.length → x.length = 256 →
    Ev (fun k => spec_SketchOf.l0 k l (i : Int) x) (sk (l.drop i) x, 0) ∧ Ev (fun k => impl_SketchOf.l0 k l (l.length : Int) (i : Int) x) (sk (l.drop i) x, 0) := by
  induction d with
  | zero =>
    intro i x hi hx
    have e : sk (l.drop i) x = x := by rw [List.drop_eq_nil_of_le (by omega)]; rfl
    rw [e]
    refine ⟨Ev.step (fun k => ?_) (Ev.now _), Ev.step (fun k => ?_) (Ev.now _)⟩
    · rw [spec_SketchOf.l0, if_neg (by omega)]
    · rw [impl_SketchOf.l0, if_neg (by omega)]
  | succ d ih =>
    intro i x hi hx
    have hi1 : i < l.length := by omega
    have c := hb i hi1
    have e1 : wrap64 ((i : Int) + 1) = ((i + 1 : Nat) : Int) := by rw [w64 (by omega) (by omega)]; omega
    have e2 : sk (l.drop i) x = sk (l.drop (i + 1)) (put x (rdOf ByteArray.empty l (i : Int))) := by
      rw [List.drop_eq_getElem_cons hi1, rdS_get l i hi1]; rfl
    obtain ⟨m0, m1, m2, hm⟩ := mark_is (rdOf ByteArray.empty l (i : Int))
    obtain ⟨n, t, hc, hs, hr, hi', ht, hm⟩ := hm (by omega)
    have hi0 : Int.tmod (n : Int) 256 = ((n % 256 : Nat) : Int) := by rw [Int.tmod_eq_emod_of_nonneg (by omega)]; omega
    have e3 : x.set (Int.tmod (n : Int) 256).toNat (mx (rd x (Int.tmod (n : Int) 256)) (markOf (rdOf ByteArray.empty l (i : Int))).2) = put x (rdOf ByteArray.empty l (i : Int)) := by
      rw [hi0, hc, Int.toNat_natCast, rd_nat]; rfl
    obtain ⟨h1, h2⟩ := ih (i + 1) (put x (rdOf ByteArray.empty l (i : Int))) (by omega) ((put_length _ _).trans hx)
    rw [← e3] at h1 h2
    rw [e2, ← e3]
    refine ⟨?_, ?_⟩
    · refine Ev.step (fun k => by rw [spec_SketchOf.l0]) ?_
      refine Ev.pos (by omega) (Ev.pos (by omega) (Ev.neg c ?_))
      refine Ev.bind hs ?_
      refine Ev.pos (by omega) (Ev.pos (by omega) ?_)
      refine Ev.bind hr ?_
      rw [e1]; exact h1
    · refine Ev.step (fun k => by rw [impl_SketchOf.l0]) ?_
      refine Ev.pos (by omega) (Ev.pos (by omega) (Ev.pos (by omega) (Ev.pos (by omega) ?_)))
      refine Ev.bind hi' ?_
      rw [ht, e1]
      rcases hm with ⟨q, hq⟩ | ⟨q, z, hz, hq⟩
      · have hq' : (markOf (rdOf ByteArray.empty l (i : Int))).2 = 25 := hq
        rw [hq'] at h2
        rw [hq']
        exact Ev.pos q (Ev.pos (by omega) (Ev.pos (by omega) h2))
      · have hq' : wrap64 (1 + z) = (markOf (rdOf ByteArray.empty l (i : Int))).2 := hq
        refine Ev.neg q ?_
        refine Ev.bind (Ev.ofEq hz) ?_
        rw [hq']
        exact Ev.pos (by omega) (Ev.pos (by omega) h2)
noncomputable def zer : List Int := List.replicate 256 0
theorem zer_length : zer.length = 256 := List.length_replicate
theorem zer_get (j : Nat) : zer.getD j 0 = 0 := by
  unfold zer
  rw [List.getD_eq_getElem?_getD, List.getElem?_replicate]
  split <;> rfl
/-- What both tell of the texts. -/
noncomputable def skTell (l : List ByteArray) : List Int × Int := if l.length ≤ 4096 ∧ ¬ l.any impl_SketchOf_1_contains.p = true then (sk l zer, 0) else ([], 2)
theorem any_big (l : List ByteArray) (hb : l.any impl_SketchOf_1_contains.p = true) : ∃ j : Nat, 0 ≤ j ∧ j < l.length ∧ (65536 : Int) < ((rdOf ByteArray.empty l (j : Int)).size : Int) := by
  obtain ⟨s, hs, hp⟩ := List.any_eq_true.1 hb
  obtain ⟨j, hj, rfl⟩ := List.mem_iff_getElem.1 hs
  have hp : (65536 : Int) < (l[j].size : Int) := of_decide_eq_true hp
  exact ⟨j, by omega, hj, by rw [rdS_get l j hj]; exact hp⟩
theorem tell_ev (l : List ByteArray) : Ev (fun k => spec_SketchOf.f k l) (skTell l) ∧ Ev (fun k => impl_SketchOf.f k l) (skTell l) := by
  unfold spec_SketchOf.f impl_SketchOf.f
  by_cases h : (l.length : Int) > 4096
  · rw [skTell, if_neg (by omega)]
    exact ⟨Ev.pos h (Ev.now _), Ev.pos h (Ev.step (fun k => by rw [impl_SketchOf.j0]) (Ev.pos rfl (Ev.now _)))⟩
  · by_cases hb : l.any impl_SketchOf_1_contains.p = true
    · rw [skTell, if_neg (fun h' => h'.2 hb)]
      refine ⟨Ev.neg h (Ev.pos (by decide) ?_), Ev.neg h ?_⟩
      · exact big_ev l (by omega) l.length 0 _ (by omega) List.length_replicate (any_big l hb)
      · refine Ev.bind (Ev.ofEq (by rw [impl_SketchOf_1_contains.f, hb])) ?_
        exact Ev.step (fun k => by rw [impl_SketchOf.j0]) (Ev.pos rfl (Ev.now _))
    · rw [skTell, if_pos ⟨by omega, hb⟩]
      have hb' : ∀ j : Nat, j < l.length → ¬ (65536 : Int) < ((rdOf ByteArray.empty l (j : Int)).size : Int) := by
        intro j hj hc
        rw [rdS_get l j hj] at hc
        exact hb (List.any_eq_true.2 ⟨l[j], List.getElem_mem hj, decide_eq_true hc⟩)
      obtain ⟨h1, h2⟩ := fold_ev l (by omega) hb' l.length 0 (List.replicate 256 0) (by omega) List.length_replicate
      have hf : impl_SketchOf_1_contains.f l = some false := by rw [impl_SketchOf_1_contains.f, Bool.eq_false_iff.2 hb]
      refine ⟨Ev.neg h (Ev.pos (by decide) h1), Ev.neg h ?_⟩
      refine Ev.bind (Ev.ofEq hf) ?_
      refine Ev.step (fun k => by rw [impl_SketchOf.j0]) ?_
      refine Ev.neg Bool.false_ne_true ?_
      exact Ev.pos (by decide) h2
theorem sk_zer (l : List ByteArray) (j : Nat) (hj : j < 256) : (sk l zer).getD j 0 = hiR j l := by
  have h := (hiR_bounds j l).1
  rw [sk_get l zer zer_length (fun j _ => by rw [zer_get]; exact Int.le_refl _) j hj, zer_get]
  split <;> omega
theorem sk_len (l : List ByteArray) : (sk l zer).length = 256 := (sk_length l zer).trans zer_length
theorem sk_ext (x : List Int) (hx : x.length = 256) (l : List ByteArray) (h : ∀ j, j < 256 → x.getD j 0 = hiR j l) : x = sk l zer :=
  get_ext ((hx.trans (sk_len l).symm)) (fun j hj => by rw [sk_len] at hj; rw [h j hj, sk_zer l j hj])
theorem sk_ok (l : List ByteArray) : impl_SketchOK.f (sk l zer) = some true := by
  unfold impl_SketchOK.f
  rw [if_pos (by rw [sk_len]; rfl)]
  have h : ((sk l zer).any fun x => (decide (x < 0) || decide (25 < x))) = false := by
    rw [List.any_eq_false]
    intro x hx
    obtain ⟨j, hj, rfl⟩ := List.mem_iff_getElem.1 hx
    rw [sk_len] at hj
    have e : (sk l zer)[j]'(by rw [sk_len]; exact hj) = hiR j l := by
      rw [← sk_zer l j hj, List.getD_eq_getElem?_getD, List.getElem?_eq_getElem]; rfl
    obtain ⟨h0, h1⟩ := hiR_bounds j l
    rw [e, decide_eq_false (by omega), decide_eq_false (by omega)]
    simp
  rw [h]; rfl

theorem n0 : ((0 : Nat) : Int) = 0 := rfl
def slotsFrom (l : List Int) : Nat → Nat → Bool
  | 0, _ => true
  | d + 1, i => !(decide (l.getD i 0 < 0) || decide (25 < l.getD i 0)) && slotsFrom l d (i + 1)
theorem slots_any (l : List Int) (d : Nat) : ∀ i : Nat, i + d = l.length → slotsFrom l d i = !((l.drop i).any fun x => (decide (x < 0) || decide (25 < x))) := by
  induction d with
  | zero =>
    intro i hi
    rw [List.drop_eq_nil_of_le (by omega)]; rfl
  | succ d ih =>
    intro i hi
    have e : l.getD i 0 = l[i] := by simp [List.getD_eq_getElem?_getD, List.getElem?_eq_getElem (show i < l.length by omega)]
    rw [slotsFrom, ih (i + 1) (by omega), List.drop_eq_getElem_cons (show i < l.length by omega), List.any_cons, e]
    generalize (decide (l[i] < 0) || decide (25 < l[i])) = b
    cases b <;> simp
theorem spec_slots (l : List Int) (hl : l.length = 256) (d : Nat) : ∀ i : Nat, i + d = l.length → Ev (fun k => spec_SketchOK.l0 k (i : Int) l) (slotsFrom l d i) := by
  induction d with
  | zero =>
    intro i hi
    refine Ev.step (fun k => ?_) (Ev.now _)
    rw [spec_SketchOK.l0, if_neg (by omega), slotsFrom]
  | succ d ih =>
    intro i hi
    have c0 : (i : Int) < 256 := by omega
    have c1 : (i : Int) < (l.length : Int) := by omega
    have e1 : Aside0 (wrap64 ((i : Int) + 1) = ((i + 1 : Nat) : Int)) := ⟨by rw [w64 (by omega) (by omega)]; omega⟩
    rw [slotsFrom]
    by_cases a1 : l.getD i 0 < 0
    · rw [decide_eq_true a1, Bool.true_or, Bool.not_true, Bool.false_and]
      refine Ev.step (fun k => ?_) (Ev.now _)
      rw [spec_SketchOK.l0, if_pos c0, if_pos (Int.natCast_nonneg _), if_pos c1, rd_nat, if_pos a1]
    · by_cases a2 : 25 < l.getD i 0
      · rw [decide_eq_true a2, Bool.or_true, Bool.not_true, Bool.false_and]
        refine Ev.step (fun k => ?_) (Ev.now _)
        rw [spec_SketchOK.l0, if_pos c0, if_pos (Int.natCast_nonneg _), if_pos c1, rd_nat, if_neg a1, if_pos a2]
      · rw [decide_eq_false a1, decide_eq_false a2, Bool.or_false, Bool.not_false, Bool.true_and]
        refine Ev.step (fun k => ?_) (ih (i + 1) (by omega))
        rw [spec_SketchOK.l0, if_pos c0, if_pos (Int.natCast_nonneg _), if_pos c1, rd_nat, if_neg a1, if_neg a2, e1.out]
theorem spec_SketchOK_eq (l : List Int) : ∃ r, impl_SketchOK.f l = some r ∧ Ev (fun k => spec_SketchOK.f k l) r := by
  by_cases h : (l.length : Int) = 256
  · have hl : l.length = 256 := by omega
    refine ⟨(!(l.any fun x => (decide (x < 0) || decide (25 < x)))), ?_, ?_⟩
    · unfold impl_SketchOK.f; rw [if_pos h]
    · have h1 := spec_slots l hl l.length 0 (by omega)
      rw [slots_any l l.length 0 (by omega), List.drop_zero, n0] at h1
      refine Ev.congr (fun k => ?_) h1
      unfold spec_SketchOK.f; rw [if_pos h]
  · refine ⟨false, ?_, ?_⟩
    · unfold impl_SketchOK.f; rw [if_neg h]
    · refine Ev.congr (f := fun _ => some false) (fun k => ?_) (Ev.now _)
      unfold spec_SketchOK.f; rw [if_neg h]

/-- Ten steps of the logarithm's part behind the point. -/
def lgIter : Nat → Int → Int → Int
  | 0, _, n => n
  | d + 1, x, n => if x * x / 1073741824 ≥ 2147483648 then lgIter d (x * x / 1073741824 / 2) (2 * n + 1) else lgIter d (x * x / 1073741824) (2 * n)
def lgX (e : Nat) (v : Int) : Int := if e ≤ 30 then v * 2 ^ (30 - e) else v / 2 ^ (e - 30)
def lgE (v : Int) : Nat := Lib.bitLen v.toNat - 1
/-- The logarithm that both tell. -/
def lg2 (v : Int) : Int := if 1 ≤ v ∧ v ≤ 4611686018427387903 then 1024 * (lgE v : Int) + lgIter 10 (lgX (lgE v) v) 0 else 0

theorem lgE_bounds (v : Int) (h0 : 1 ≤ v) (h1 : v ≤ 4611686018427387903) : (2 : Int) ^ lgE v ≤ v ∧ v < 2 ^ (lgE v + 1) ∧ lgE v ≤ 61 ∧ Lib.bitLen v.toNat = lgE v + 1 := by
  have hv : v.toNat < 2 ^ 64 := by
    have : v.toNat < 18446744073709551616 := by omega
    exact this
  obtain ⟨b1, b2, b3⟩ := Lib.bitLenAux_bounds 64 v.toNat hv (by omega)
  have b1' : 1 ≤ Lib.bitLen v.toNat := b1
  have b2' : 2 ^ (Lib.bitLen v.toNat - 1) ≤ v.toNat := b2
  have b3' : v.toNat < 2 ^ Lib.bitLen v.toNat := b3
  have hle : Lib.bitLen v.toNat ≤ 62 := Lib.bitLen_le v.toNat 62 (by decide) (by
    have : v.toNat < 4611686018427387904 := by omega
    exact this)
  have e1 : lgE v + 1 = Lib.bitLen v.toNat := by unfold lgE; omega
  refine ⟨?_, ?_, by unfold lgE; omega, e1.symm⟩
  · have : ((2 ^ lgE v : Nat) : Int) ≤ (v.toNat : Int) := Int.ofNat_le.2 b2'
    rw [Int.natCast_pow, Int.toNat_of_nonneg (by omega)] at this
    exact this
  · rw [e1]
    have : (v.toNat : Int) < ((2 ^ Lib.bitLen v.toNat : Nat) : Int) := Int.ofNat_lt.2 b3'
    rw [Int.natCast_pow, Int.toNat_of_nonneg (by omega)] at this
    exact this

theorem p2 (a b : Nat) : (2 : Int) ^ (a + b) = 2 ^ a * 2 ^ b := Int.pow_add _ _ _
theorem p2pos (a : Nat) : (0 : Int) < 2 ^ a := Int.pow_pos (by decide)
theorem p2le (a b : Nat) (h : a ≤ b) : (2 : Int) ^ a ≤ 2 ^ b := by
  have := Nat.pow_le_pow_right (n := 2) (by decide) h
  have h := Int.ofNat_le.2 this
  rw [Int.natCast_pow, Int.natCast_pow] at h
  exact h

theorem lgX_bounds (e : Nat) (v : Int) (h0 : (2 : Int) ^ e ≤ v) (h1 : v < 2 ^ (e + 1)) (he : e ≤ 61) : 1073741824 ≤ lgX e v ∧ lgX e v < 2147483648 := by
  unfold lgX
  by_cases c : e ≤ 30
  · rw [if_pos c]
    have q : (0 : Int) < 2 ^ (30 - e) := p2pos _
    have a : (2 : Int) ^ e * 2 ^ (30 - e) = 1073741824 := by rw [← p2, show e + (30 - e) = 30 by omega]; rfl
    have b : (2 : Int) ^ (e + 1) * 2 ^ (30 - e) = 2147483648 := by rw [← p2, show e + 1 + (30 - e) = 31 by omega]; rfl
    constructor
    · rw [← a]; exact Int.mul_le_mul_of_nonneg_right h0 (Int.le_of_lt q)
    · rw [← b]; exact Int.mul_lt_mul_of_pos_right h1 q
  · rw [if_neg c]
    have q : (0 : Int) < 2 ^ (e - 30) := p2pos _
    have a : 1073741824 * (2 : Int) ^ (e - 30) = 2 ^ e := by
      have : (1073741824 : Int) = 2 ^ 30 := rfl
      rw [this, ← p2, show 30 + (e - 30) = e by omega]
    have b : 2147483648 * (2 : Int) ^ (e - 30) = 2 ^ (e + 1) := by
      have : (2147483648 : Int) = 2 ^ 31 := rfl
      rw [this, ← p2, show 31 + (e - 30) = e + 1 by omega]
    constructor
    · exact (Int.le_ediv_iff_mul_le q).2 (by rw [a]; exact h0)
    · exact (Int.ediv_lt_iff_lt_mul q).2 (by rw [b]; exact h1)

theorem sq_bounds (x : Int) (h0 : 1073741824 ≤ x) (h1 : x < 2147483648) : 1152921504606846976 ≤ x * x ∧ x * x < 4611686018427387904 := by
  have a : 1073741824 * 1073741824 ≤ x * x := Int.mul_le_mul h0 h0 (by decide) (by omega)
  have b : x * x ≤ 2147483647 * 2147483647 := Int.mul_le_mul (by omega) (by omega) (by omega) (by decide)
  omega

theorem lgIter_bounds (d : Nat) : ∀ (x n : Int), 0 ≤ n → 0 ≤ lgIter d x n ∧ n * 2 ^ d ≤ lgIter d x n ∧ lgIter d x n < (n + 1) * 2 ^ d := by
  induction d with
  | zero => intro x n hn; simp [lgIter]; omega
  | succ d ih =>
    intro x n hn
    have e : (2 : Int) ^ (d + 1) = 2 ^ d * 2 := Int.pow_succ _ _
    have q := p2pos d
    unfold lgIter
    split
    · obtain ⟨h1, h2, h3⟩ := ih (x * x / 1073741824 / 2) (2 * n + 1) (by omega)
      have e1 : (2 * n + 1 + 1) * (2 : Int) ^ d = (n + 1) * 2 ^ (d + 1) := by rw [e, Int.mul_comm (2 ^ d) 2, ← Int.mul_assoc]; congr 1; omega
      have e2 : (2 * n + 1) * (2 : Int) ^ d = n * 2 ^ (d + 1) + 2 ^ d := by rw [e, Int.add_mul, Int.one_mul, Int.mul_comm (2 ^ d) 2, ← Int.mul_assoc, Int.mul_comm n 2]
      refine ⟨h1, ?_, ?_⟩
      · rw [e2] at h2; generalize n * (2 : Int) ^ (d + 1) = z at *; generalize (2 : Int) ^ d = y at *; omega
      · rw [e1] at h3; exact h3
    · obtain ⟨h1, h2, h3⟩ := ih (x * x / 1073741824) (2 * n) (by omega)
      have e1 : (2 * n + 1) * (2 : Int) ^ d = n * 2 ^ (d + 1) + 2 ^ d := by rw [e, Int.add_mul, Int.one_mul, Int.mul_comm (2 ^ d) 2, ← Int.mul_assoc, Int.mul_comm n 2]
      have e2 : (2 * n) * (2 : Int) ^ d = n * 2 ^ (d + 1) := by rw [e, Int.mul_comm (2 ^ d) 2, ← Int.mul_assoc, Int.mul_comm n 2]
      have e3 : (n + 1) * (2 : Int) ^ (d + 1) = n * 2 ^ (d + 1) + 2 ^ d + 2 ^ d := by rw [Int.add_mul, Int.one_mul, e]; generalize n * ((2 : Int) ^ d * 2) = z; generalize (2 : Int) ^ d = y; omega
      refine ⟨h1, by rw [e2] at h2; exact h2, ?_⟩
      rw [e3]; rw [e1] at h3
      generalize n * (2 : Int) ^ (d + 1) = z at *; generalize (2 : Int) ^ d = y at *; omega

theorem n_small (d : Nat) (n : Int) (h0 : 0 ≤ n) (h : (n + 1) * 2 ^ d ≤ 1024) : n < 1024 := by
  have q := p2pos d
  have : n + 1 ≤ (n + 1) * 2 ^ d := by
    have := Int.mul_le_mul_of_nonneg_left (show (1 : Int) ≤ 2 ^ d from q) (show 0 ≤ n + 1 by omega)
    rw [Int.mul_one] at this; exact this
  generalize (n + 1) * (2 : Int) ^ d = z at *
  omega

theorem dbl (d : Nat) (n : Int) (h : (n + 1) * 2 ^ (d + 1) ≤ 1024) : (2 * n + 1 + 1) * 2 ^ d ≤ 1024 ∧ (2 * n + 1) * 2 ^ d ≤ 1024 := by
  have e : (2 : Int) ^ (d + 1) = 2 ^ d * 2 := Int.pow_succ _ _
  have q := p2pos d
  have e1 : (2 * n + 1 + 1) * (2 : Int) ^ d = (n + 1) * 2 ^ (d + 1) := by rw [e, Int.mul_comm (2 ^ d) 2, ← Int.mul_assoc]; congr 1; omega
  have e2 : (2 * n + 1 + 1) * (2 : Int) ^ d = (2 * n + 1) * 2 ^ d + 2 ^ d := by rw [Int.add_mul (2 * n + 1) 1, Int.one_mul]
  refine ⟨by rw [e1]; exact h, ?_⟩
  rw [← e1, e2] at h
  generalize (2 * n + 1) * (2 : Int) ^ d = z at *; generalize (2 : Int) ^ d = y at *; omega

theorem lg_last (e : Nat) (he : e ≤ 61) (n : Int) (h0 : 0 ≤ n) (h1 : n < 1024) : wrap64 (wrap64 (1024 * (e : Int)) + n) = 1024 * (e : Int) + n := by
  rw [w64 (x := 1024 * (e : Int)) (by omega) (by omega), w64 (by omega) (by omega)]

theorem spec_l1 (e : Nat) (he : e ≤ 61) (d : Nat) (hd10 : d ≤ 10) : ∀ (k : Nat) (x n : Int), d < k → 1073741824 ≤ x → x < 2147483648 → 0 ≤ n → (n + 1) * 2 ^ d ≤ 1024 →
    spec_Log2.l1 k e 1073741824 x n ((10 - d : Nat) : Int) = some (1024 * (e : Int) + lgIter d x n) := by
  induction d with
  | zero =>
    intro k x n hk hx0 hx1 hn hb
    obtain ⟨k, rfl⟩ : ∃ m, k = m + 1 := ⟨k - 1, by omega⟩
    rw [spec_Log2.l1, if_neg (by omega), lg_last e he n hn (n_small 0 n hn hb)]; rfl
  | succ d ih =>
    intro k x n hk hx0 hx1 hn hb
    obtain ⟨k, rfl⟩ : ∃ m, k = m + 1 := ⟨k - 1, by omega⟩
    have hs := n_small (d + 1) n hn hb
    obtain ⟨hb1, hb2⟩ := dbl d n hb
    obtain ⟨s0, s1⟩ := sq_bounds x hx0 hx1
    have e1 : wrap64 (((10 - (d + 1) : Nat) : Int) + 1) = ((10 - d : Nat) : Int) := by rw [w64 (by omega) (by omega)]; omega
    have e2 : wrap64 (x * x) = x * x := w64 (by omega) (by omega)
    have e3 : Int.tdiv (x * x) 1073741824 = x * x / 1073741824 := Int.tdiv_eq_ediv_of_nonneg (by omega)
    have e4 : wrap64 (x * x / 1073741824) = x * x / 1073741824 := w64 (by omega) (by omega)
    have e5 : wrap64 (2 * 1073741824) = 2147483648 := by rw [w64 (by omega) (by omega)]; rfl
    have e6 : wrap64 (2 * n) = 2 * n := w64 (by omega) (by omega)
    have e7 : wrap64 (2 * n + 1) = 2 * n + 1 := w64 (by omega) (by omega)
    rw [spec_Log2.l1, if_pos (by omega), if_neg (by decide), e1, e2, e3, e4, e5, e6, e7]
    unfold lgIter
    by_cases c : x * x / 1073741824 ≥ 2147483648
    · have e8 : Int.tdiv (x * x / 1073741824) 2 = x * x / 1073741824 / 2 := Int.tdiv_eq_ediv_of_nonneg (by omega)
      have e9 : wrap64 (x * x / 1073741824 / 2) = x * x / 1073741824 / 2 := w64 (by omega) (by omega)
      rw [if_pos c, if_pos c, e8, e9]
      exact ih (by omega) k _ _ (by omega) (by omega) (by omega) (by omega) hb1
    · rw [if_neg c, if_neg c]
      exact ih (by omega) k _ _ (by omega) (by omega) (by omega) (by omega) hb2

theorem impl_l0 (e : Nat) (he : e ≤ 61) (d : Nat) (hd10 : d ≤ 10) : ∀ (k : Nat) (x n : Int), d < k → 1073741824 ≤ x → x < 2147483648 → 0 ≤ n → (n + 1) * 2 ^ d ≤ 1024 →
    impl_Log2.l0 k e x n ((10 - d : Nat) : Int) = some (1024 * (e : Int) + lgIter d x n) := by
  induction d with
  | zero =>
    intro k x n hk hx0 hx1 hn hb
    obtain ⟨k, rfl⟩ : ∃ m, k = m + 1 := ⟨k - 1, by omega⟩
    rw [impl_Log2.l0, if_neg (by omega), lg_last e he n hn (n_small 0 n hn hb)]; rfl
  | succ d ih =>
    intro k x n hk hx0 hx1 hn hb
    obtain ⟨k, rfl⟩ : ∃ m, k = m + 1 := ⟨k - 1, by omega⟩
    have hs := n_small (d + 1) n hn hb
    obtain ⟨hb1, hb2⟩ := dbl d n hb
    obtain ⟨s0, s1⟩ := sq_bounds x hx0 hx1
    have e1 : wrap64 (((10 - (d + 1) : Nat) : Int) + 1) = ((10 - d : Nat) : Int) := by rw [w64 (by omega) (by omega)]; omega
    have e2 : wrap64 (x * x) = x * x := w64 (by omega) (by omega)
    have e6 : wrap64 (n * 2) = 2 * n := by rw [w64 (by omega) (by omega)]; omega
    have e7 : wrap64 (2 * n + 1) = 2 * n + 1 := w64 (by omega) (by omega)
    rw [impl_Log2.l0, if_pos (by omega), e1, e2, e6, e7]
    unfold lgIter
    by_cases c : x * x / 1073741824 ≥ 2147483648
    · have e8 : Int.tdiv (x * x / 1073741824) 2 = x * x / 1073741824 / 2 := Int.tdiv_eq_ediv_of_nonneg (by omega)
      have e9 : wrap64 (x * x / 1073741824 / 2) = x * x / 1073741824 / 2 := w64 (by omega) (by omega)
      rw [if_pos c, if_pos c, e8, e9]
      exact ih (by omega) k _ _ (by omega) (by omega) (by omega) (by omega) hb1
    · rw [if_neg c, if_neg c]
      exact ih (by omega) k _ _ (by omega) (by omega) (by omega) (by omega) hb2

theorem u64_id (x : Int) (h0 : 0 ≤ x) (h1 : x ≤ 9223372036854775807) : IntKind.u64.wrap (wrap64 x) = x := by
  rw [w64 (by omega) h1]; simp [IntKind.wrap, IntKind.bits, IntKind.signed]; omega

theorem shl_is (x : Int) (j : Nat) (hj : j ≤ 63) (h0 : 0 ≤ x * 2 ^ j) (h1 : x * 2 ^ j ≤ 9223372036854775807) : shl .i64 x (j : Int) = x * 2 ^ j := by
  unfold shl
  have e : min ((j : Int)).toNat IntKind.i64.bits = j := by
    have : IntKind.i64.bits = 64 := rfl
    omega
  rw [e, IntKind.wrap_i64]
  generalize x * (2 : Int) ^ j = z at *
  omega

theorem shr_is (x : Int) (j : Nat) (hj : j ≤ 63) : shr .i64 x (j : Int) = x / 2 ^ j := by
  unfold shr
  have e : min ((j : Int)).toNat IntKind.i64.bits = j := by
    have : IntKind.i64.bits = 64 := rfl
    omega
  rw [e]

theorem spec_j2 (e : Nat) (v : Int) (h0 : (2 : Int) ^ e ≤ v) (h1 : v < 2 ^ (e + 1)) (he : e ≤ 61) (k : Nat) (hk : 14 ≤ k) : spec_Log2.j2 k v e = some (1024 * (e : Int) + lgIter 10 (lgX e v) 0) := by
  obtain ⟨k, rfl⟩ : ∃ m, k = m + 2 := ⟨k - 2, by omega⟩
  obtain ⟨x0, x1⟩ := lgX_bounds e v h0 h1 he
  have fin := spec_l1 e he 10 (by omega) k (lgX e v) 0 (by omega) x0 x1 (by omega) (by decide)
  rw [spec_Log2.j2]
  by_cases c : e ≤ 30
  · have ex : lgX e v = v * 2 ^ (30 - e) := by unfold lgX; rw [if_pos c]
    have ew : IntKind.u64.wrap (wrap64 (30 - (e : Int))) = ((30 - e : Nat) : Int) := by rw [u64_id _ (by omega) (by omega)]; omega
    rw [if_pos (by omega), ew, if_pos (by omega), shl_is v (30 - e) (by omega) (by rw [← ex]; omega) (by rw [← ex]; omega), ← ex, spec_Log2.j3]
    exact fin
  · have ex : lgX e v = v / 2 ^ (e - 30) := by unfold lgX; rw [if_neg c]
    have ew : IntKind.u64.wrap (wrap64 ((e : Int) - 30)) = ((e - 30 : Nat) : Int) := by rw [u64_id _ (by omega) (by omega)]; omega
    rw [if_neg (by omega), ew, if_pos (by omega), shr_is v (e - 30) (by omega), ← ex, spec_Log2.j3]
    exact fin

theorem spec_l0 (e : Nat) (v : Int) (h0 : (2 : Int) ^ e ≤ v) (h1 : v < 2 ^ (e + 1)) (he : e ≤ 61) (d : Nat) : ∀ (i m : Nat), i + d = e → spec_Log2.l0 (m + d + 1) v (i : Int) = spec_Log2.j2 m v e := by
  induction d with
  | zero =>
    intro i m hi
    obtain rfl : i = e := by omega
    have ew : IntKind.u64.wrap (wrap64 ((i : Int) + 1)) = ((i + 1 : Nat) : Int) := by rw [u64_id _ (by omega) (by omega)]; omega
    have hp : (2 : Int) ^ (i + 1) ≤ 4611686018427387904 := p2le (i + 1) 62 (by omega)
    rw [Nat.add_zero, spec_Log2.l0, if_pos (by omega), ew, if_pos (by omega), shl_is 1 (i + 1) (by omega) (by rw [Int.one_mul]; exact Int.le_of_lt (p2pos _)) (by rw [Int.one_mul]; exact Int.le_trans hp (by decide)), Int.one_mul, if_neg (Int.not_le.2 h1)]
  | succ d ih =>
    intro i m hi
    have ew : IntKind.u64.wrap (wrap64 ((i : Int) + 1)) = ((i + 1 : Nat) : Int) := by rw [u64_id _ (by omega) (by omega)]; omega
    have hp : (2 : Int) ^ (i + 1) ≤ 4611686018427387904 := p2le (i + 1) 62 (by omega)
    have hle : (2 : Int) ^ (i + 1) ≤ v := Int.le_trans (p2le (i + 1) e (by omega)) h0
    have e1 : wrap64 ((i : Int) + 1) = ((i + 1 : Nat) : Int) := by rw [w64 (by omega) (by omega)]; omega
    rw [show m + (d + 1) + 1 = (m + d + 1) + 1 by omega, spec_Log2.l0, if_pos (by omega), ew, if_pos (by omega), shl_is 1 (i + 1) (by omega) (by rw [Int.one_mul]; exact Int.le_of_lt (p2pos _)) (by rw [Int.one_mul]; exact Int.le_trans hp (by decide)), Int.one_mul, if_pos hle, e1]
    exact ih (i + 1) m (by omega)

theorem spec_Log2_eq (v : Int) (k : Nat) (hk : 80 ≤ k) : spec_Log2.f k v = some (lg2 v) := by
  obtain ⟨k, rfl⟩ : ∃ m, k = m + 1 := ⟨k - 1, by omega⟩
  unfold spec_Log2.f lg2
  by_cases c0 : v < 1
  · rw [if_pos c0, spec_Log2.j0, if_pos rfl, if_neg (by omega)]
  · by_cases c1 : v > 4611686018427387903
    · rw [if_neg c0, decide_eq_true c1, spec_Log2.j0, if_pos rfl, if_neg (by omega)]
    · obtain ⟨b0, b1, b2, b3⟩ := lgE_bounds v (by omega) (by omega)
      have := spec_l0 (lgE v) v b0 b1 b2 (lgE v) 0 (k - lgE v - 1) (by omega)
      rw [show k - lgE v - 1 + lgE v + 1 = k by omega] at this
      rw [if_neg c0, decide_eq_false c1, spec_Log2.j0, if_neg (by decide), if_pos ⟨by omega, by omega⟩]
      have this' : spec_Log2.l0 k v 0 = spec_Log2.j2 (k - lgE v - 1) v (lgE v) := this
      rw [this', spec_j2 (lgE v) v b0 b1 b2 _ (by omega)]

theorem impl_Log2_eq (v : Int) (k : Nat) (hk : 14 ≤ k) : impl_Log2.f k v = some (lg2 v) := by
  obtain ⟨k, rfl⟩ : ∃ m, k = m + 1 := ⟨k - 1, by omega⟩
  unfold impl_Log2.f lg2 impl_within.f
  by_cases c0 : v ≥ 1
  · by_cases c1 : v ≤ 4611686018427387903
    · obtain ⟨b0, b1, b2, b3⟩ := lgE_bounds v (by omega) (by omega)
      obtain ⟨x0, x1⟩ := lgX_bounds (lgE v) v b0 b1 b2
      have fin := impl_l0 (lgE v) b2 10 (by omega) k (lgX (lgE v) v) 0 (by omega) x0 x1 (by omega) (by decide)
      have eu : IntKind.u64.wrap v = v := by simp [IntKind.wrap, IntKind.bits, IntKind.signed]; omega
      have e1 : wrap64 (((lgE v + 1 : Nat) : Int) - 1) = (lgE v : Int) := by rw [w64 (by omega) (by omega)]; omega
      rw [if_pos c0, decide_eq_true c1, if_pos ⟨by omega, c1⟩]
      simp only [Option.bind_some, if_true]
      unfold bits_Len.f
      rw [eu, if_pos (by omega), if_pos (by omega), b3]
      simp only [Option.bind_some]
      rw [e1]
      by_cases c : lgE v ≤ 30
      · have ex : lgX (lgE v) v = v * 2 ^ (30 - lgE v) := by unfold lgX; rw [if_pos c]
        have ew : wrap64 (30 - (lgE v : Int)) = ((30 - lgE v : Nat) : Int) := by rw [w64 (by omega) (by omega)]; omega
        rw [if_pos (by omega), ew, if_pos (by omega), shl_is v (30 - lgE v) (by omega) (by rw [← ex]; omega) (by rw [← ex]; omega), ← ex, impl_Log2.j0]
        exact fin
      · have ex : lgX (lgE v) v = v / 2 ^ (lgE v - 30) := by unfold lgX; rw [if_neg c]
        have ew : wrap64 ((lgE v : Int) - 30) = ((lgE v - 30 : Nat) : Int) := by rw [w64 (by omega) (by omega)]; omega
        rw [if_neg (by omega), ew, if_pos (by omega), shr_is v (lgE v - 30) (by omega), ← ex, impl_Log2.j0]
        exact fin
    · rw [if_pos c0, decide_eq_false c1, if_neg (by omega)]; rfl
  · rw [if_neg c0, if_neg (by omega)]; rfl

/-! ### How many texts a sketch tells of -/
def cFin (z s : Int) : Int × Int := if z > 0 then (wrap64 (Int.tdiv (wrap64 ((wrap64 (256 * (wrap64 (8192 - lg2 z)))) * 710)) 1048576), 0) else (wrap64 (Int.tdiv (1580547964928 : Int) s), 0)
def cntR (l : List Int) : Nat → Nat → Int → Int → Int × Int
  | 0, _, z, s => cFin z s
  | d + 1, i, z, s => cntR l d (i + 1) (if l.getD i 0 = 0 then z + 1 else z) (s + 1 * 2 ^ (25 - (l.getD i 0).toNat))
theorem spec_in (l : List Int) (z s : Int) (i : Nat) (hi : i < 256) (hs0 : 0 ≤ s) (hs1 : s ≤ 8589934592) (res : Int × Int) (d : Nat) : ∀ (r : Nat) (x : Int), r + d = 25 → 1 ≤ x → x * 2 ^ d ≤ 33554432 →
    Ev (fun k => spec_SketchCount.l0 k z (s + x * 2 ^ d) ((i + 1 : Nat) : Int) l) res → Ev (fun k => spec_SketchCount.l1 k z s (i : Int) x (r : Int) l) res := by
  have e1 : Aside0 (wrap64 ((i : Int) + 1) = ((i + 1 : Nat) : Int)) := ⟨by rw [w64 (by omega) (by omega)]; omega⟩
  induction d with
  | zero =>
    intro r x hr hx hb h
    rw [Int.pow_zero, Int.mul_one] at h hb
    have e2 : Aside0 (wrap64 (s + x) = s + x) := ⟨w64 (by omega) (by omega)⟩
    refine Ev.step (fun k => ?_) h
    rw [spec_SketchCount.l1, if_neg (by omega), e2.out, e1.out]
  | succ d ih =>
    intro r x hr hx hb h
    have ep : x * 2 ^ (d + 1) = (2 * x) * 2 ^ d := by rw [Int.pow_succ, Int.mul_comm ((2 : Int) ^ d) 2, ← Int.mul_assoc, Int.mul_comm x 2]
    rw [ep] at h hb
    have hp : (1 : Int) ≤ 2 ^ d := p2pos d
    have hle : 2 * x * 1 ≤ 2 * x * 2 ^ d := Int.mul_le_mul_of_nonneg_left hp (by omega)
    have hx2 : 2 * x ≤ 33554432 := by rw [Int.mul_one] at hle; exact Int.le_trans hle hb
    have h' := ih (r + 1) (2 * x) (by omega) (by omega) hb h
    clear hle hp ep hb h ih
    have e2 : Aside0 (wrap64 (2 * x) = 2 * x) := ⟨w64 (by omega) (by omega)⟩
    have e3 : Aside0 (wrap64 ((r : Int) + 1) = ((r + 1 : Nat) : Int)) := ⟨by rw [w64 (by omega) (by omega)]; omega⟩
    refine Ev.step (fun k => ?_) h'
    rw [spec_SketchCount.l1, if_pos (by omega), e2.out, e3.out]
theorem slot_pow (m : Nat) : (1 : Int) ≤ 1 * 2 ^ (25 - m) ∧ (1 : Int) * 2 ^ (25 - m) ≤ 33554432 := by
  have h1 : (0 : Int) < 2 ^ (25 - m) := p2pos _
  have h2 : (2 : Int) ^ (25 - m) ≤ 2 ^ 25 := p2le _ _ (by omega)
  have h3 : (2 : Int) ^ 25 = 33554432 := by decide
  rw [h3] at h2
  generalize (2 : Int) ^ (25 - m) = p at *
  omega
theorem spec_cnt (l : List Int) (hl : l.length = 256) (hb : ∀ i, i < 256 → 0 ≤ l.getD i 0 ∧ l.getD i 0 ≤ 25) (d : Nat) : ∀ (i : Nat) (z s : Int), i + d = 256 → 0 ≤ z → z ≤ i → 0 ≤ s → s ≤ (i : Int) * 33554432 → (0 < i → 0 < s) →
    Ev (fun k => spec_SketchCount.l0 k z s (i : Int) l) (cntR l d i z s) := by
  induction d with
  | zero =>
    intro i z s hi hz0 hz1 hs0 hs1 hs2
    have hs : ¬ (s = 0) := by have := hs2 (by omega); omega
    refine Ev.steps 81 (fun k => ?_) (Ev.now _)
    show spec_SketchCount.l0 ((k + 80) + 1) z s (i : Int) l = some (cFin z s)
    rw [spec_SketchCount.l0, if_neg (by omega)]
    unfold cFin
    by_cases c : z > 0
    · rw [if_pos c, if_pos c, spec_Log2_eq z _ (by omega), Option.bind_some]
    · rw [if_neg c, if_neg c, if_neg hs]
  | succ d ih =>
    intro i z s hi hz0 hz1 hs0 hs1 hs2
    obtain ⟨b0, b1⟩ := hb i (by omega)
    obtain ⟨m, hm⟩ : ∃ m : Nat, l.getD i 0 = (m : Int) := ⟨(l.getD i 0).toNat, by omega⟩
    have c0 : (i : Int) < 256 := by omega
    have c1 : (i : Int) < (l.length : Int) := by omega
    rw [cntR, hm, Int.toNat_natCast]
    obtain ⟨q0, q1⟩ := slot_pow m
    rw [hm] at b1
    by_cases hz : m = 0
    · subst hz
      have e1 : Aside0 (wrap64 (z + 1) = z + 1) := ⟨w64 (by omega) (by omega)⟩
      have hin := ih (i + 1) (z + 1) (s + 1 * 2 ^ (25 - 0)) (by omega) (by omega) (by omega) (by omega) (by omega) (by omega)
      have h := spec_in l (z + 1) s i (by omega) hs0 (by omega) _ (25 - 0) 0 1 (by omega) (by omega) q1 hin
      rw [if_pos (by rfl)]
      refine Ev.steps 2 (fun k => ?_) h
      rw [spec_SketchCount.l0, if_pos c0, if_pos (Int.natCast_nonneg _), if_pos c1, rd_nat, hm, if_pos (by rfl), spec_SketchCount.j1, if_pos (Int.natCast_nonneg _), if_pos c1, rd_nat, hm, e1.out]
    · have hz' : ¬ ((m : Int) = 0) := by omega
      have hin := ih (i + 1) z (s + 1 * 2 ^ (25 - m)) (by omega) (by omega) (by omega) (by omega) (by omega) (by omega)
      have h := spec_in l z s i (by omega) hs0 (by omega) _ (25 - m) m 1 (by omega) (by omega) q1 hin
      rw [if_neg hz']
      refine Ev.steps 2 (fun k => ?_) h
      rw [spec_SketchCount.l0, if_pos c0, if_pos (Int.natCast_nonneg _), if_pos c1, rd_nat, hm, if_neg hz', spec_SketchCount.j1, if_pos (Int.natCast_nonneg _), if_pos c1, rd_nat, hm]
theorem impl_cnt (l : List Int) (hl : l.length = 256) (hb : ∀ i, i < 256 → 0 ≤ l.getD i 0 ∧ l.getD i 0 ≤ 25) (d : Nat) : ∀ (i : Nat) (z s : Int), i + d = 256 → 0 ≤ z → z ≤ i → 0 ≤ s → s ≤ (i : Int) * 33554432 → (0 < i → 0 < s) →
    Ev (fun k => impl_SketchCount.l0 k z s l (l.length : Int) (i : Int)) (cntR l d i z s) := by
  induction d with
  | zero =>
    intro i z s hi hz0 hz1 hs0 hs1 hs2
    have hs : ¬ (s = 0) := by have := hs2 (by omega); omega
    refine Ev.steps 81 (fun k => ?_) (Ev.now _)
    show impl_SketchCount.l0 ((k + 80) + 1) z s l (l.length : Int) (i : Int) = some (cFin z s)
    rw [impl_SketchCount.l0, if_neg (by omega)]
    unfold cFin
    by_cases c : z > 0
    · rw [if_pos c, if_pos c, impl_Log2_eq z _ (by omega), Option.bind_some]
    · rw [if_neg c, if_neg c, if_neg hs]
  | succ d ih =>
    intro i z s hi hz0 hz1 hs0 hs1 hs2
    obtain ⟨b0, b1⟩ := hb i (by omega)
    obtain ⟨m, hm⟩ : ∃ m : Nat, l.getD i 0 = (m : Int) := ⟨(l.getD i 0).toNat, by omega⟩
    have c1 : (i : Int) < (l.length : Int) := by omega
    rw [cntR, hm, Int.toNat_natCast]
    obtain ⟨q0, q1⟩ := slot_pow m
    rw [hm] at b1
    have e0 : Aside0 (wrap64 (25 - (m : Int)) = ((25 - m : Nat) : Int)) := ⟨by rw [w64 (by omega) (by omega)]; omega⟩
    have e2 : Aside0 (wrap64 ((i : Int) + 1) = ((i + 1 : Nat) : Int)) := ⟨by rw [w64 (by omega) (by omega)]; omega⟩
    have e3 : Aside0 (shl .i64 1 ((25 - m : Nat) : Int) = 1 * 2 ^ (25 - m)) := ⟨shl_is 1 (25 - m) (by omega) (by omega) (by omega)⟩
    have e4 : Aside0 (wrap64 (s + 1 * 2 ^ (25 - m)) = s + 1 * 2 ^ (25 - m)) := ⟨w64 (by omega) (by omega)⟩
    have c2 : (0 : Int) ≤ ((25 - m : Nat) : Int) := Int.natCast_nonneg _
    by_cases hz : m = 0
    · subst hz
      have e1 : Aside0 (wrap64 (z + 1) = z + 1) := ⟨w64 (by omega) (by omega)⟩
      have hin := ih (i + 1) (z + 1) (s + 1 * 2 ^ (25 - 0)) (by omega) (by omega) (by omega) (by omega) (by omega) (by omega)
      rw [if_pos (by rfl)]
      refine Ev.step (fun k => ?_) hin
      rw [impl_SketchCount.l0, if_pos c1, if_pos (Int.natCast_nonneg _), if_pos c1, rd_nat, hm, if_pos (by rfl), e0.out, if_pos c2, e3.out, e4.out, e1.out, e2.out]
    · have hz' : ¬ ((m : Int) = 0) := by omega
      have hin := ih (i + 1) z (s + 1 * 2 ^ (25 - m)) (by omega) (by omega) (by omega) (by omega) (by omega) (by omega)
      rw [if_neg hz']
      refine Ev.step (fun k => ?_) hin
      rw [impl_SketchCount.l0, if_pos c1, if_pos (Int.natCast_nonneg _), if_pos c1, rd_nat, hm, if_neg hz', e0.out, if_pos c2, e3.out, e4.out, e2.out]
theorem slots_in (l : List Int) (h : (!(l.any fun x => (decide (x < 0) || decide (25 < x)))) = true) (i : Nat) (hi : i < l.length) : 0 ≤ l.getD i 0 ∧ l.getD i 0 ≤ 25 := by
  have e : l.getD i 0 = l[i] := by simp [List.getD_eq_getElem?_getD, List.getElem?_eq_getElem hi]
  have h0 : (l.any fun x => (decide (x < 0) || decide (25 < x))) = false := by simpa using h
  have h1 := (List.any_eq_false.1 h0) l[i] (List.getElem_mem hi)
  rw [e]
  have h2 : ¬ (l[i] < 0 ∨ 25 < l[i]) := by simpa using h1
  omega
theorem count_eq (l : List Int) : ∃ r, Ev (fun k => spec_SketchCount.f k l) r ∧ Ev (fun k => impl_SketchCount.f k l) r := by
  obtain ⟨b, hi, K, hs⟩ := spec_SketchOK_eq l
  have hs' : ∀ k, K ≤ k → spec_SketchOK.f k l = some b := hs
  cases b with
  | false =>
    refine ⟨(0, 1), ⟨K, fun k hk => ?_⟩, ⟨0, fun k hk => ?_⟩⟩
    · show spec_SketchCount.f k l = _
      unfold spec_SketchCount.f
      rw [hs' k hk, Option.bind_some, if_neg Bool.false_ne_true]
    · show impl_SketchCount.f k l = _
      unfold impl_SketchCount.f
      rw [hi, Option.bind_some, if_neg Bool.false_ne_true]
  | true =>
    have hi0 := hi
    unfold impl_SketchOK.f at hi0
    by_cases hl' : (l.length : Int) = 256
    · have hl : l.length = 256 := by omega
      rw [if_pos hl'] at hi0
      have hb := fun i (h : i < 256) => slots_in l (Option.some.inj hi0) i (by omega)
      obtain ⟨K1, h1⟩ := spec_cnt l hl hb 256 0 0 0 (by omega) (by omega) (by omega) (by omega) (by omega) (by omega)
      obtain ⟨K2, h2⟩ := impl_cnt l hl hb 256 0 0 0 (by omega) (by omega) (by omega) (by omega) (by omega) (by omega)
      have h1' : ∀ k, K1 ≤ k → spec_SketchCount.l0 k 0 0 0 l = some (cntR l 256 0 0 0) := h1
      have h2' : ∀ k, K2 ≤ k → impl_SketchCount.l0 k 0 0 l (l.length : Int) 0 = some (cntR l 256 0 0 0) := h2
      refine ⟨cntR l 256 0 0 0, ⟨K + K1, fun k hk => ?_⟩, ⟨K2, fun k hk => ?_⟩⟩
      · show spec_SketchCount.f k l = _
        unfold spec_SketchCount.f
        rw [hs' k (by omega), Option.bind_some, if_pos rfl, h1' k (by omega)]
      · show impl_SketchCount.f k l = _
        unfold impl_SketchCount.f
        rw [hi, Option.bind_some, if_pos rfl, h2' k (by omega)]
    · rw [if_neg hl'] at hi0
      cases hi0

/-! ### Two sketches joined -/
def jAt (a b : List Int) (i : Nat) : Int := mx (a.getD i 0) (b.getD i 0)
def jOf (a b : List Int) : List Int := (List.range 256).map (jAt a b)
theorem jOf_length (a b : List Int) : (jOf a b).length = 256 := by simp [jOf]
theorem jOf_get (a b : List Int) (i : Nat) (h : i < 256) : (jOf a b).getD i 0 = jAt a b i := by
  simp [jOf, List.getD_eq_getElem?_getD, List.getElem?_map, List.getElem?_range h]
theorem impl_join (a b : List Int) (ha : a.length = 256) (hb : b.length = 256) (d : Nat) : ∀ (i : Nat) (c : List Int), i + d = 256 → c.length = 256 → (∀ j, j < i → c.getD j 0 = jAt a b j) → (∀ j, i ≤ j → c.getD j 0 = a.getD j 0) →
    Ev (fun k => impl_SketchJoin.l0 k b (b.length : Int) (i : Int) c) (jOf a b, 0) := by
  induction d with
  | zero =>
    intro i c hi hc hj hk
    have e : c = jOf a b := get_ext (by rw [jOf_length]; omega) (fun j h => by rw [jOf_length] at h; rw [jOf_get a b j h]; exact hj j (by omega))
    refine Ev.step (fun k => ?_) (Ev.now _)
    rw [impl_SketchJoin.l0, if_neg (by omega), e]
  | succ d ih =>
    intro i c hi hc hj hk
    have c1 : (i : Int) < (b.length : Int) := by omega
    have c2 : (i : Int) < (c.length : Int) := by omega
    have e1 : Aside0 (wrap64 ((i : Int) + 1) = ((i + 1 : Nat) : Int)) := ⟨by rw [w64 (by omega) (by omega)]; omega⟩
    refine Ev.step (fun k => ?_) (ih (i + 1) (c.set i (jAt a b i)) (by omega) (by simp [hc]) (fun j h => ?_) (fun j h => ?_))
    · rw [impl_SketchJoin.l0, if_pos c1, if_pos (Int.natCast_nonneg _), if_pos c1, if_pos c2, e1.out, rd_nat, rd_nat, Int.toNat_natCast, hk i (by omega), jAt]
    · by_cases h' : j < i
      · rw [Kit.getD_set_ne c i j _ (by omega)]; exact hj j h'
      · obtain rfl : j = i := by omega
        rw [Kit.getD_set_eq c j _ (by omega)]
    · rw [Kit.getD_set_ne c i j _ (by omega)]; exact hk j (by omega)
theorem ok_len (l : List Int) (h : impl_SketchOK.f l = some true) : l.length = 256 := by
  unfold impl_SketchOK.f at h
  by_cases hl : (l.length : Int) = 256
  · omega
  · rw [if_neg hl] at h; cases h

theorem src_chance (s : List Int) (hs : BytesOK s) (at_ q n : Int) (h0 : 0 ≤ at_) (h1 : at_ ≤ 100000000000) (hq : SeedOK q) (hn : 1 ≤ n) :
    ∃ b a' q', spec_l01Src_chance.f s at_ q n = some (b, a', q') ∧ at_ ≤ a' ∧ a' ≤ at_ + 3 ∧ SeedOK q' := by
  obtain ⟨v, a', q', e, b0, b1, b2, b3, hq'⟩ := src_next s hs at_ q n h0 h1 hq hn
  unfold spec_l01Src_chance.f
  rw [e, Option.bind_some]
  exact ⟨_, _, _, rfl, b2, b3, hq'⟩
theorem dec3 (n : Int) (h0 : 0 ≤ n) (h1 : n < 1000) : ∃ t, (∀ k, spec_l08Dec.f (k + 3) n = some t) ∧ t.size ≤ 3 := by
  by_cases c : n < 10
  · obtain ⟨t, e, hs⟩ := dec2 n h0 (by omega)
    exact ⟨t, fun k => e (k + 1), by omega⟩
  · have e1 : wrap64 (Int.tdiv n 10) = n / 10 := by rw [Int.tdiv_eq_ediv_of_nonneg h0, w64 (by omega) (by omega)]
    obtain ⟨t, e, hs⟩ := dec2 (n / 10) (by omega) (by omega)
    generalize hy : (strOfNums ([(wrap64 (48 + (Int.tmod n 10))) % 256] : List Int)) = y
    have hz : y.size = 1 := by rw [← hy]; simp [strOfNums, ByteArray.size]
    refine ⟨t ++ y, fun k => ?_, by rw [ByteArray.size_append]; omega⟩
    rw [spec_l08Dec.f, if_neg (by omega), if_neg c, e1, e k]
    simp only [Option.bind_some]
    rw [hy, if_pos (by omega)]
theorem texts_loop (s : List Int) (hs : BytesOK s) (c : Nat) : ∀ (x : List ByteArray) (a q : Int), x.length + c ≤ 10000 → 0 ≤ a → a + 6 * (c : Int) ≤ 1000000 → SeedOK q → ∃ r, Ev (fun k => spec_l17Texts.l0 k x (c : Int) s a q) r := by
  induction c with
  | zero =>
    intro x a q _ _ _ _
    exact ⟨_, Ev.step (fun k => by rw [spec_l17Texts.l0, if_neg (by omega)]) (Ev.now _)⟩
  | succ c ih =>
    intro x a q hx ha hac hq
    obtain ⟨t1, a1, q1, e1, s1, b1, c1, hq1⟩ := word_ex s hs a q ha (by omega) hq
    obtain ⟨v2, a2, q2, e2, b2, b2', c2, c2', hq2⟩ := src_next s hs a1 q1 500 b1 (by omega) hq1 (by omega)
    obtain ⟨t3, e3, s3⟩ := dec3 v2 b2 (by omega)
    obtain ⟨r, hr⟩ := ih (x ++ [t1 ++ t3]) a2 q2 (by simp; omega) (by omega) (by omega) hq2
    have ew : wrap64 (((c + 1 : Nat) : Int) - 1) = (c : Int) := by rw [w64 (by omega) (by omega)]; omega
    refine ⟨r, Ev.step (fun k => by rw [spec_l17Texts.l0, ew]) ?_⟩
    refine Ev.pos (by omega) ?_
    refine Ev.bind (Ev.ofEq e1) ?_
    refine Ev.bind (Ev.ofEq e2) ?_
    refine Ev.bind (g := fun k => spec_l08Dec.f k v2) (a := t3) ⟨3, fun k hk => by obtain ⟨m, rfl⟩ : ∃ m, k = m + 3 := ⟨k - 3, by omega⟩; exact e3 m⟩ ?_
    exact Ev.pos (by simp only; omega) (Ev.pos (by omega) hr)
theorem texts_j0 (s : List Int) (hs : BytesOK s) (c : Int) (h0 : 0 ≤ c) (h1 : c ≤ 9000) (a q : Int) (ha : 0 ≤ a) (ha' : a ≤ 1000) (hq : SeedOK q) : ∃ r, Ev (fun k => spec_l17Texts.j0 k ([] : List ByteArray) c s a q) r := by
  obtain ⟨n, rfl⟩ : ∃ n : Nat, c = n := ⟨c.toNat, by omega⟩
  obtain ⟨r, hr⟩ := texts_loop s hs n [] a q (by simp; omega) ha (by omega) hq
  exact ⟨r, Ev.step (fun k => by rw [spec_l17Texts.j0]) hr⟩
theorem texts_ex (s : List Int) (hs : BytesOK s) (a q : Int) (ha : 0 ≤ a) (ha' : a ≤ 100) (hq : SeedOK q) : ∃ r, Ev (fun k => spec_l17Texts.f k s a q) r := by
  have hz : ∃ n, spec_l01Src_size.f s a q 60 = some (n, a, q) ∧ 0 ≤ n ∧ n ≤ 60 := by
    unfold spec_l01Src_size.f
    have hl := hs.1
    have e : wrap64 (1 + wrap64 ((s.length : Int) / 12)) = 1 + (s.length : Int) / 12 := by rw [w64 (x := (s.length : Int) / 12) (by omega) (by omega), w64 (by omega) (by omega)]
    rw [e]
    refine ⟨_, rfl, ?_, ?_⟩ <;> (unfold mn; split <;> omega)
  obtain ⟨n, e0, n0, n1⟩ := hz
  have ew : wrap64 (n + 1) = n + 1 := w64 (by omega) (by omega)
  obtain ⟨v1, a1, q1, e1, b1, b1', c1, c1', hq1⟩ := src_next s hs a q (n + 1) ha (by omega) hq (by omega)
  obtain ⟨b, a2, q2, e2, c2, c2', hq2⟩ := src_chance s hs a1 q1 10 (by omega) (by omega) hq1 (by omega)
  obtain ⟨v3, a3, q3, e3, b3, b3', c3, c3', hq3⟩ := src_next s hs a2 q2 1500 (by omega) (by omega) hq2 (by omega)
  have hf : ∀ r, Ev (fun k => if b = true then ((spec_l01Src_next.f s a2 q2 1500).bind fun bt178 => (spec_l17Texts.j0 k ([] : List ByteArray) (wrap64 (200 + bt178.1)) s bt178.2.1 bt178.2.2)) else (spec_l17Texts.j0 k ([] : List ByteArray) v1 s a2 q2)) r → Ev (fun k => spec_l17Texts.f k s a q) r := by
    intro r h
    unfold spec_l17Texts.f
    refine Ev.bind (Ev.now _) ?_
    refine Ev.bind (Ev.ofEq e0) ?_
    simp only
    rw [ew]
    refine Ev.bind (Ev.ofEq e1) ?_
    simp only
    refine Ev.bind (Ev.ofEq e2) ?_
    exact h
  cases b with
  | true =>
    have ew3 : wrap64 (200 + v3) = 200 + v3 := w64 (by omega) (by omega)
    obtain ⟨r, hr⟩ := texts_j0 s hs (200 + v3) (by omega) (by omega) a3 q3 (by omega) (by omega) hq3
    refine ⟨r, hf r (Ev.pos rfl (Ev.bind (Ev.ofEq e3) ?_))⟩
    simp only
    rw [ew3]
    exact hr
  | false =>
    obtain ⟨r, hr⟩ := texts_j0 s hs v1 (by omega) (by omega) a2 q2 (by omega) (by omega) hq2
    exact ⟨r, hf r (Ev.neg Bool.false_ne_true hr)⟩
theorem draw_ex (l : List Int) (hs : BytesOK l) : ∃ t, Ev (fun k => spec_DrawSketchOf.f k l) t := by
  obtain ⟨q0, e0, hq0⟩ := src_start l hs.1
  obtain ⟨b, a1, q1, e1, c1, c1', hq1⟩ := src_chance l hs 0 q0 60 (by omega) (by omega) hq0 (by omega)
  unfold spec_DrawSketchOf.f
  cases b with
  | true =>
    obtain ⟨v2, a2, q2, e2, b2, b2', _⟩ := src_next l hs a1 q1 2 (by omega) (by omega) hq1 (by omega)
    have ew : wrap64 (4096 + v2) = 4096 + v2 := w64 (by omega) (by omega)
    refine ⟨List.replicate (4096 + v2 : Int).toNat (⟨#[]⟩ : ByteArray), ?_⟩
    refine Ev.bind (Ev.ofEq e0) ?_
    simp only
    refine Ev.bind (Ev.ofEq e1) ?_
    simp only
    refine Ev.pos trivial ?_
    refine Ev.bind (Ev.ofEq e2) ?_
    simp only
    rw [ew]
    exact Ev.pos (by omega) (Ev.pos (by omega) (Ev.now _))
  | false =>
    obtain ⟨r, hr⟩ := texts_ex l hs a1 q1 (by omega) (by omega) hq1
    refine ⟨r.1, ?_⟩
    refine Ev.bind (Ev.ofEq e0) ?_
    simp only
    refine Ev.bind (Ev.ofEq e1) ?_
    simp only
    refine Ev.neg Bool.false_ne_true ?_
    exact Ev.bind hr (Ev.now _)
theorem same_ev (l : List Int) (h : l.length ≤ 256) : Ev (fun k => laws_sameInts.f k l l) true := by
  unfold laws_sameInts.f
  exact Ev.pos rfl (Ev.from l.length (fun k hk => eqS_all laws_sameInts.l0 (fun _ _ _ _ => rfl) l (by omega) k hk))
theorem lg_small (z : Int) (h0 : 1 ≤ z) (h1 : z ≤ 256) : 0 ≤ lg2 z ∧ lg2 z ≤ 8192 := by
  by_cases c : z = 256
  · subst c; decide
  · obtain ⟨b1, b2, b3, _⟩ := lgE_bounds z h0 (by omega)
    have he : lgE z ≤ 7 := by
      rcases Nat.lt_or_ge 7 (lgE z) with h | h
      · have := p2le 8 (lgE z) h
        have e8 : (2 : Int) ^ 8 = 256 := by decide
        omega
      · exact h
    obtain ⟨a1, _, a3⟩ := lgIter_bounds 10 (lgX (lgE z) z) 0 (by omega)
    have e10 : ((0 : Int) + 1) * 2 ^ 10 = 1024 := by decide
    rw [e10] at a3
    unfold lg2
    rw [if_pos ⟨h0, by omega⟩]
    omega
theorem cFin_ok (z s : Int) (h0 : 0 ≤ z) (h1 : z ≤ 256) (h2 : 0 < s) : (cFin z s).2 = 0 ∧ 0 ≤ (cFin z s).1 := by
  unfold cFin
  by_cases c : z > 0
  · rw [if_pos c]
    obtain ⟨l0, l1⟩ := lg_small z (by omega) h1
    refine ⟨rfl, ?_⟩
    simp only
    rw [w64 (x := 8192 - lg2 z) (by omega) (by omega), w64 (x := 256 * (8192 - lg2 z)) (by omega) (by omega), w64 (x := 256 * (8192 - lg2 z) * 710) (by omega) (by omega), Int.tdiv_eq_ediv_of_nonneg (by omega), w64 (by omega) (by omega)]
    omega
  · rw [if_neg c]
    refine ⟨rfl, ?_⟩
    simp only
    have g0 : 0 ≤ (1580547964928 : Int) / s := Int.ediv_nonneg (by omega) (by omega)
    have g1 : (1580547964928 : Int) / s ≤ 1580547964928 := Int.ediv_le_self _ (by omega)
    rw [Int.tdiv_eq_ediv_of_nonneg (by omega), w64 (by omega) (by omega)]
    exact g0
theorem cntR_fin (l : List Int) (d : Nat) : ∀ (i : Nat) (z s : Int), i + d = 256 → 0 ≤ z → z ≤ i → 0 ≤ s → (0 < i → 0 < s) → (cntR l d i z s).2 = 0 ∧ 0 ≤ (cntR l d i z s).1 := by
  induction d with
  | zero =>
    intro i z s hi h0 h1 h2 h3
    rw [cntR]
    exact cFin_ok z s h0 (by omega) (h3 (by omega))
  | succ d ih =>
    intro i z s hi h0 h1 h2 h3
    rw [cntR]
    obtain ⟨q0, q1⟩ := slot_pow (l.getD i 0).toNat
    refine ih (i + 1) _ _ (by omega) ?_ ?_ (by omega) (fun _ => by omega)
    · split <;> omega
    · split <;> omega
theorem count_sk (l : List ByteArray) : ∃ v : Int, 0 ≤ v ∧ Ev (fun k => spec_SketchCount.f k (sk l zer)) (v, 0) ∧ Ev (fun k => impl_SketchCount.f k (sk l zer)) (v, 0) := by
  obtain ⟨b, hi, hs⟩ := spec_SketchOK_eq (sk l zer)
  obtain rfl : true = b := Option.some.inj ((sk_ok l).symm.trans hi)
  have hb : ∀ i, i < 256 → 0 ≤ (sk l zer).getD i 0 ∧ (sk l zer).getD i 0 ≤ 25 := fun i h => by rw [sk_zer l i h]; exact hiR_bounds i l
  obtain ⟨f1, f2⟩ := cntR_fin (sk l zer) 256 0 0 0 (by omega) (by omega) (by omega) (by omega) (by omega)
  have h1 := spec_cnt (sk l zer) (sk_len l) hb 256 0 0 0 (by omega) (by omega) (by omega) (by omega) (by omega) (by omega)
  have h2 := impl_cnt (sk l zer) (sk_len l) hb 256 0 0 0 (by omega) (by omega) (by omega) (by omega) (by omega) (by omega)
  generalize cntR (sk l zer) 256 0 0 0 = r at *
  obtain ⟨v, e⟩ := r
  simp only at f1 f2
  subst f1
  refine ⟨v, f2, ?_, ?_⟩
  · unfold spec_SketchCount.f
    exact Ev.bind hs (Ev.pos rfl h1)
  · unfold impl_SketchCount.f
    exact Ev.bind (Ev.ofEq hi) (Ev.pos rfl h2)
theorem join_sk (a b : List ByteArray) : Ev (fun k => impl_SketchJoin.f k (sk a zer) (sk b zer)) (sk (a ++ b) zer, 0) := by
  have h := impl_join (sk a zer) (sk b zer) (sk_len a) (sk_len b) 256 0 (sk a zer) (by omega) (sk_len a) (fun j h => absurd h (by omega)) (fun j _ => rfl)
  have e : jOf (sk a zer) (sk b zer) = sk (a ++ b) zer := by
    refine sk_ext _ (jOf_length _ _) _ (fun j hj => ?_)
    rw [jOf_get _ _ j hj, jAt, sk_zer a j hj, sk_zer b j hj, hiR_append]
    rfl
  rw [e] at h
  unfold impl_SketchJoin.f
  refine Ev.bind (Ev.ofEq (sk_ok a)) ?_
  refine Ev.pos rfl ?_
  refine Ev.bind (Ev.ofEq (sk_ok b)) ?_
  refine Ev.step (fun k => by rw [impl_SketchJoin.j0]) ?_
  refine Ev.neg (by simp) ?_
  refine Ev.bind (Ev.ofEq (show slices_Clone_int_int.f (sk a zer) = some (sk a zer) by unfold slices_Clone_int_int.f; rw [if_pos (by rw [sk_len]; omega)])) ?_
  exact h
theorem last_ev (t h : List ByteArray) (hh : ∀ j, j < 256 → hiR j h ≤ hiR j t) (d : Nat) : ∀ i : Nat, i + d = 256 → Ev (fun k => laws_FnSketch.l1 k (i : Int) (sk t zer) (sk h zer)) true := by
  induction d with
  | zero =>
    intro i hi
    obtain ⟨v, v0, h1, h2⟩ := count_sk t
    refine Ev.step (fun k => by rw [laws_FnSketch.l1]) ?_
    refine Ev.neg (by rw [sk_len]; omega) ?_
    refine Ev.bind h2 ?_
    refine Ev.bind h1 ?_
    refine Ev.pos rfl (Ev.pos rfl ?_)
    simp only
    rw [decide_eq_true (show v ≥ 0 from v0)]
    exact Ev.now _
  | succ d ih =>
    intro i hi
    have e1 : wrap64 ((i : Int) + 1) = ((i + 1 : Nat) : Int) := by rw [w64 (by omega) (by omega)]; omega
    have hj := hh i (by omega)
    refine Ev.step (fun k => ?_) (ih (i + 1) (by omega))
    rw [laws_FnSketch.l1, if_pos (by rw [sk_len]; omega), if_pos (by omega), if_pos (by rw [sk_len]; omega), rd_nat, rd_nat, sk_zer h i (by omega), sk_zer t i (by omega), if_neg (by omega), e1]
theorem tell_ok (l : List ByteArray) (h0 : l.length ≤ 4096) (h1 : ¬ l.any impl_SketchOf_1_contains.p = true) : skTell l = (sk l zer, 0) := by rw [skTell, if_pos ⟨h0, h1⟩]
theorem sub_ok (t l : List ByteArray) (h : ¬ t.any impl_SketchOf_1_contains.p = true) (hs : ∀ s ∈ l, s ∈ t) : ¬ l.any impl_SketchOf_1_contains.p = true := by
  intro hl
  obtain ⟨s, h1, h2⟩ := List.any_eq_true.1 hl
  exact h (List.any_eq_true.2 ⟨s, hs s h1, h2⟩)
theorem rest_ev (t : List ByteArray) (x : ByteArray) (hx : x ∈ t) (hl : t.length + 1 ≤ 4096) (hb : ¬ t.any impl_SketchOf_1_contains.p = true) : Ev (fun k => laws_FnSketch.l0 k t (x :: t.reverse) (-1) (sk t zer)) true := by
  have hn : wrap64 ((t.length : Int) / 2) = ((t.length / 2 : Nat) : Int) := by rw [w64 (by omega) (by omega)]; omega
  have tE : skTell (x :: t.reverse) = (sk t zer, 0) := by
    rw [tell_ok _ (by simp; omega) (sub_ok t _ hb (fun s h => by
      rcases List.mem_cons.1 h with rfl | h
      · exact hx
      · exact List.mem_reverse.1 h))]
    rw [sk_ext (sk (x :: t.reverse) zer) (sk_len _) t (fun j hj => ?_)]
    rw [sk_zer _ j hj]
    have e : hiR j (x :: t.reverse) = if hiR j [x] < hiR j t.reverse then hiR j t.reverse else hiR j [x] := hiR_append j [x] t.reverse
    have := hiR_mem j t x hx
    rw [e, hiR_reverse]
    split <;> omega
  have tA : skTell (t.take (t.length / 2)) = (sk (t.take (t.length / 2)) zer, 0) := tell_ok _ (by rw [List.length_take]; omega) (sub_ok t _ hb (fun s h => List.mem_of_mem_take h))
  have tB : skTell (t.drop (t.length / 2)) = (sk (t.drop (t.length / 2)) zer, 0) := tell_ok _ (by rw [List.length_drop]; omega) (sub_ok t _ hb (fun s h => List.mem_of_mem_drop h))
  have i0 := (tell_ev (x :: t.reverse)).2
  have i1 := (tell_ev (t.take (t.length / 2))).2
  have i2 := (tell_ev (t.drop (t.length / 2))).2
  have jn := join_sk (t.take (t.length / 2)) (t.drop (t.length / 2))
  rw [List.take_append_drop] at jn
  rw [tE] at i0
  rw [tA] at i1
  rw [tB] at i2
  have sm := same_ev (sk t zer) (by rw [sk_len]; omega)
  have hle : ∀ j, j < 256 → hiR j (t.take (t.length / 2)) ≤ hiR j t := by
    intro j _
    have e := hiR_append j (t.take (t.length / 2)) (t.drop (t.length / 2))
    rw [List.take_append_drop] at e
    rw [e]; split <;> omega
  have fin := last_ev t (t.take (t.length / 2)) hle 256 0 (by omega)
  generalize hA : sk (t.take (t.length / 2)) zer = sA at *
  refine Ev.step (fun k => by rw [laws_FnSketch.l0, hn, Int.toNat_natCast]) ?_
  refine Ev.neg (by omega) ?_
  refine Ev.bind i0 ?_
  refine Ev.pos (by omega) (Ev.pos (by omega) ?_)
  refine Ev.bind i1 ?_
  refine Ev.bind i2 ?_
  refine Ev.bind jn ?_
  simp only
  refine Ev.pos trivial (Ev.pos trivial (Ev.pos trivial (Ev.pos trivial ?_)))
  refine Ev.bind sm ?_
  refine Ev.pos rfl ?_
  refine Ev.bind sm ?_
  refine Ev.step (fun k => by rw [laws_FnSketch.j3]) ?_
  refine Ev.neg (by simp) ?_
  exact fin
theorem back_ev (t : List ByteArray) (x : ByteArray) (z : List Int) (hl : t.length ≤ 4096) (h : Ev (fun k => laws_FnSketch.l0 k t (x :: t.reverse) (-1) z) true) : ∀ i : Nat, i ≤ t.length → Ev (fun k => laws_FnSketch.l0 k t (x :: (t.drop i).reverse) ((i : Int) - 1) z) true := by
  intro i
  induction i with
  | zero => intro _; exact h
  | succ i ih =>
    intro hi
    have hi' : i < t.length := by omega
    have e1 : ((i + 1 : Nat) : Int) - 1 = (i : Int) := by omega
    have e2 : wrap64 ((i : Int) - 1) = (i : Int) - 1 := w64 (by omega) (by omega)
    have e3 : (x :: (t.drop (i + 1)).reverse) ++ [rdOf ByteArray.empty t (i : Int)] = x :: (t.drop i).reverse := by
      rw [rdS_get t i hi', List.drop_eq_getElem_cons hi', List.reverse_cons, List.cons_append]
    rw [e1]
    refine Ev.step (fun k => ?_) (ih (by omega))
    rw [laws_FnSketch.l0, if_pos (by omega), if_pos (by omega), if_pos (by omega), if_pos (by simp; omega), e3, e2]
theorem FnSketch (l : List Int) (hw : l.length ≤ maxLen ∧ ∀ y0 ∈ l, (Lit.int .u8 y0).wf = true) : ∃ k, laws_FnSketch.f k l = some true := by
  obtain ⟨hl1, hb⟩ := hw
  refine Ev.rounds (g := fun k => laws_FnSketch.f k l) ?_
  unfold laws_FnSketch.f
  by_cases h : (l.length : Int) > 1048576
  · exact Ev.pos h (Ev.now _)
  · refine Ev.neg h ?_
    have hs : BytesOK l := ⟨by omega, fun i hi => by
      have e : l.getD i 0 = l[i] := by simp [List.getD_eq_getElem?_getD, List.getElem?_eq_getElem hi]
      rw [e]; exact wf8 (hb _ (List.getElem_mem hi))⟩
    obtain ⟨t, ht⟩ := draw_ex l hs
    obtain ⟨h1, h2⟩ := tell_ev t
    have hlen : (skTell t).1.length ≤ 256 := by
      rw [skTell]; split
      · exact Nat.le_of_eq (sk_len t)
      · simp
    have sm := same_ev (skTell t).1 hlen
    refine Ev.bind ht ?_
    refine Ev.bind h1 ?_
    refine Ev.bind h2 ?_
    refine Ev.pos rfl ?_
    refine Ev.bind sm ?_
    refine Ev.step (fun k => by rw [laws_FnSketch.j0]) ?_
    refine Ev.neg (by simp) ?_
    by_cases c : t.length ≤ 4096 ∧ ¬ t.any impl_SketchOf_1_contains.p = true
    · rw [tell_ok t c.1 c.2]
      refine Ev.pos rfl ?_
      by_cases c0 : (t.length : Int) = 0
      · refine Ev.pos c0 ?_
        exact Ev.step (fun k => by rw [laws_FnSketch.j1]) (Ev.pos rfl (Ev.now _))
      · refine Ev.neg c0 ?_
        by_cases c1 : (t.length : Int) ≥ 4096
        · rw [decide_eq_true c1]
          exact Ev.step (fun k => by rw [laws_FnSketch.j1]) (Ev.pos rfl (Ev.now _))
        · rw [decide_eq_false c1]
          refine Ev.step (fun k => by rw [laws_FnSketch.j1]) ?_
          refine Ev.neg Bool.false_ne_true ?_
          refine Ev.pos (by omega) ?_
          have hx : rdOf ByteArray.empty t 0 ∈ t := by
            have h0 : 0 < t.length := by omega
            have := rdS_get t 0 h0
            rw [n0] at this
            rw [this]; exact List.getElem_mem h0
          have hr := rest_ev t _ hx (by omega) c.2
          have hk := back_ev t _ _ c.1 hr t.length (Nat.le_refl _)
          have e : wrap64 ((t.length : Int) - 1) = (t.length : Int) - 1 := w64 (by omega) (by omega)
          rw [e]
          rw [List.drop_length, List.reverse_nil] at hk
          exact hk
    · rw [skTell, if_neg c]
      refine Ev.neg (by simp) ?_
      exact Ev.step (fun k => by rw [laws_FnSketch.j1]) (Ev.pos rfl (Ev.now _))

end Go.Proofs.YtchoncnahlcfjaaDoor.Pure
