/- Whatever the code, the program's Route of what is drawn of it is the remainder of the sum, and halves the shards as told: the law answers true. No condition. -/
import Derived.Test.YtfkejcakklpecaaXFnRoutex4
import Derived.Test.YtfkejcakklpecaaKit
import Derived.Lib.ItoaNum
import Derived.Lib.Bytes
import Derived.Test.YtfkejcakklpecaaWfFnRoute
set_option linter.unusedSimpArgs false
set_option linter.unusedVariables false
namespace Go.Proofs.Ytfkejcakklpecaa.Pure
open Go.RowKit Go.Proofs.Ytfkejcakklpecaa.XFnRoute Go.Proofs.YtfkejcakklpecaaW.PrintWords Go.Proofs.YtfkejcakklpecaaW.PrintLast Go.Proofs.YtfkejcakklpecaaW.PrintMore Go.Proofs.Ytfkejcakklpecaa.Kit

theorem Ev.steps {α : Type} {g f : Nat → Option α} {r : α} (c : Nat) (h : ∀ k, g (k + c) = f k) (k : Ev f r) : Ev g r := by
  obtain ⟨K, hK⟩ := k
  refine ⟨K + c, fun n hn => ?_⟩
  have := h (n - c)
  rw [Nat.sub_add_cancel (by omega)] at this
  rw [this]; exact hK _ (by omega)

theorem Ev.pos {α : Type} {c : Prop} [Decidable c] {f g : Nat → Option α} {r : α} (h : c) (k : Ev f r) : Ev (fun n => if c then f n else g n) r := Ev.congr (fun n => if_pos h) k
theorem Ev.neg {α : Type} {c : Prop} [Decidable c] {f g : Nat → Option α} {r : α} (h : ¬ c) (k : Ev g r) : Ev (fun n => if c then f n else g n) r := Ev.congr (fun n => if_neg h) k
theorem Ev.ofEq {α : Type} {x : Option α} {r : α} (h : x = some r) : Ev (fun _ => x) r := ⟨0, fun _ _ => h⟩
theorem Ev.from {α : Type} {g : Nat → Option α} {r : α} (K : Nat) (h : ∀ k, K < k → g k = some r) : Ev g r := ⟨K + 1, fun k hk => h k (by omega)⟩

/-! ### The drawer of drawn inputs: what its bytes and numbers are -/
def BytesOK (s : List Int) : Prop := s.length ≤ 1048576 ∧ ∀ i, i < s.length → 0 ≤ s.getD i 0 ∧ s.getD i 0 ≤ 255
def SeedOK (q : Int) : Prop := 0 ≤ q ∧ q < 2147483648
theorem src_byte (s : List Int) (hs : BytesOK s) (at_ q : Int) (h0 : 0 ≤ at_) (h1 : at_ ≤ 1000000000000) (hq : SeedOK q) :
    ∃ v q', spec_l01Src_byte.f s at_ q = some (v, at_ + 1, q') ∧ 0 ≤ v ∧ v ≤ 255 ∧ SeedOK q' := by
  obtain ⟨q0, q1⟩ := hq
  have e1 : Aside0 (wrap64 (at_ + 1) = at_ + 1) := ⟨w64 (by omega) (by omega)⟩
  have e2 : Aside0 (wrap64 (at_ + 1 - 1) = at_) := ⟨by rw [w64 (by omega) (by omega)]; omega⟩
  have hl := hs.1
  unfold spec_l01Src_byte.f
  rw [e1.out, e2.out]
  by_cases c : at_ + 1 ≤ (s.length : Int)
  · rw [if_pos c, if_pos h0, if_pos (by omega)]
    obtain ⟨n, rfl⟩ : ∃ n : Nat, at_ = n := ⟨at_.toNat, by omega⟩
    obtain ⟨b0, b1⟩ := hs.2 n (by omega)
    rw [rd_nat]
    generalize s.getD n 0 = b at *
    have e3 : Aside0 (wrap64 b = b) := ⟨w64 (by omega) (by omega)⟩
    have e4 : Aside0 (wrap64 (q * 31) = q * 31) := ⟨w64 (by omega) (by omega)⟩
    have e5 : Aside0 (wrap64 (q * 31 + b) = q * 31 + b) := ⟨w64 (by omega) (by omega)⟩
    have e6 : Aside0 (wrap64 (q * 31 + b + 7) = q * 31 + b + 7) := ⟨w64 (by omega) (by omega)⟩
    rw [e3.out, e4.out, e5.out, e6.out, Int.tmod_eq_emod_of_nonneg (by omega)]
    exact ⟨_, _, rfl, b0, b1, by omega, by omega⟩
  · rw [if_neg c]
    by_cases c2 : at_ + 1 > wrap64 (4000 + wrap64 (4 * (s.length : Int)))
    · rw [if_pos c2]; exact ⟨_, _, rfl, by omega, by omega, q0, q1⟩
    · rw [if_neg c2]
      have e4 : Aside0 (wrap64 (q * 1103515245) = q * 1103515245) := ⟨w64 (by omega) (by omega)⟩
      have e5 : Aside0 (wrap64 (q * 1103515245 + 12345) = q * 1103515245 + 12345) := ⟨w64 (by omega) (by omega)⟩
      rw [e4.out, e5.out, Int.tmod_eq_emod_of_nonneg (a := q * 1103515245 + 12345) (by omega)]
      generalize hz : (q * 1103515245 + 12345) % 2147483648 = z
      have z0 : 0 ≤ z := by omega
      have z1 : z < 2147483648 := by omega
      clear hz e4 e5 c2
      have e7 : Aside0 (wrap64 (Int.tdiv z 65536) = z / 65536) := ⟨by rw [Int.tdiv_eq_ediv_of_nonneg z0, w64 (by omega) (by omega)]⟩
      rw [e7.out, Int.tmod_eq_emod_of_nonneg (by omega)]
      exact ⟨_, _, rfl, by omega, by omega, z0, z1⟩
theorem src_next (s : List Int) (hs : BytesOK s) (at_ q n : Int) (h0 : 0 ≤ at_) (h1 : at_ ≤ 100000000000) (hq : SeedOK q) (hn : 1 ≤ n) :
    ∃ v a' q', spec_l01Src_next.f s at_ q n = some (v, a', q') ∧ 0 ≤ v ∧ v < n ∧ at_ ≤ a' ∧ a' ≤ at_ + 3 ∧ SeedOK q' := by
  unfold spec_l01Src_next.f
  by_cases c1 : n ≤ 1
  · rw [if_pos c1]; exact ⟨_, _, _, rfl, by omega, by omega, by omega, by omega, hq⟩
  · rw [if_neg c1]
    obtain ⟨v1, q1, e1, b1, d1, hq1⟩ := src_byte s hs at_ q h0 (by omega) hq
    rw [e1]
    by_cases c2 : n ≤ 256
    · rw [if_pos c2, Option.bind_some, if_neg (by omega)]
      simp only
      rw [Int.tmod_eq_emod_of_nonneg b1]
      exact ⟨_, _, _, rfl, Int.emod_nonneg _ (by omega), Int.emod_lt_of_pos _ (by omega), by omega, by omega, hq1⟩
    · obtain ⟨v2, q2, e2, b2, d2, hq2⟩ := src_byte s hs (at_ + 1) q1 (by omega) (by omega) hq1
      obtain ⟨v3, q3, e3, b3, d3, hq3⟩ := src_byte s hs (at_ + 1 + 1) q2 (by omega) (by omega) hq2
      rw [if_neg c2]
      simp only [Option.bind_some]
      rw [e2]
      simp only [Option.bind_some]
      rw [e3]
      simp only [Option.bind_some]
      rw [if_neg (by omega)]
      have w1 : Aside0 (wrap64 (v1 * 65536) = v1 * 65536) := ⟨w64 (by omega) (by omega)⟩
      have w2 : Aside0 (wrap64 (v2 * 256) = v2 * 256) := ⟨w64 (by omega) (by omega)⟩
      have w3 : Aside0 (wrap64 (v1 * 65536 + v2 * 256) = v1 * 65536 + v2 * 256) := ⟨w64 (by omega) (by omega)⟩
      have w4 : Aside0 (wrap64 (v1 * 65536 + v2 * 256 + v3) = v1 * 65536 + v2 * 256 + v3) := ⟨w64 (by omega) (by omega)⟩
      rw [w1.out, w2.out, w3.out, w4.out, Int.tmod_eq_emod_of_nonneg (by omega)]
      exact ⟨_, _, _, rfl, Int.emod_nonneg _ (by omega), Int.emod_lt_of_pos _ (by omega), by omega, by omega, hq3⟩
theorem src_start (l : List Int) (h : l.length ≤ 1048576) : ∃ q, spec_l01Source.f l = some (l, 0, q) ∧ SeedOK q := by
  unfold spec_l01Source.f
  exact ⟨_, rfl, by omega, by omega⟩

theorem word_ex (s : List Int) (hs : BytesOK s) (at_ q : Int) (h0 : 0 ≤ at_) (h1 : at_ ≤ 10000000000) (hq : SeedOK q) :
    ∃ t a' q', spec_l01Src_word.f s at_ q = some (t, a', q') ∧ t.size ≤ 8 ∧ 0 ≤ a' ∧ a' ≤ at_ + 3 ∧ SeedOK q' := by
  unfold spec_l01Src_word.f
  rw [Option.bind_some]
  generalize hy : ([(⟨#[114, 117, 110]⟩ : ByteArray), (⟨#[114, 117, 110, 110, 105, 110, 103]⟩ : ByteArray), (⟨#[114, 117, 110, 115]⟩ : ByteArray), (⟨#[114, 97, 110]⟩ : ByteArray), (⟨#[99, 97, 116]⟩ : ByteArray), (⟨#[99, 97, 116, 115]⟩ : ByteArray), (⟨#[116, 104, 101]⟩ : ByteArray), (⟨#[111, 102]⟩ : ByteArray), (⟨#[104, 111, 117, 115, 101]⟩ : ByteArray), (⟨#[104, 111, 117, 115, 101, 115]⟩ : ByteArray), (⟨#[113, 117, 105, 99, 107]⟩ : ByteArray), (⟨#[102, 111, 120]⟩ : ByteArray), (⟨#[105, 116, 39, 115]⟩ : ByteArray), (⟨#[120, 95, 49]⟩ : ByteArray), (⟨#[195, 156, 98, 101, 114]⟩ : ByteArray), (⟨#[99, 97, 102, 195, 169]⟩ : ByteArray), (⟨#[67, 97, 116]⟩ : ByteArray), (⟨#[52, 50]⟩ : ByteArray), (⟨#[55]⟩ : ByteArray), (⟨#[208, 150, 97, 114]⟩ : ByteArray), (⟨#[228, 184, 173]⟩ : ByteArray), (⟨#[206, 169, 109, 101, 103, 97]⟩ : ByteArray), (⟨#[115, 116, 111, 112, 112, 101, 100]⟩ : ByteArray), (⟨#[113, 117, 105, 99, 107, 108, 121]⟩ : ByteArray), (⟨#[108, 97, 100, 105, 101, 115]⟩ : ByteArray)] : List ByteArray) = y
  have hz : ∀ x ∈ y, x.size ≤ 8 := by rw [← hy]; decide
  have hl : y.length = 25 := by rw [← hy]; rfl
  clear hy
  obtain ⟨v, a', q', e, b0, b1, b2, b3, hq'⟩ := src_next s hs at_ q (y.length : Int) h0 (by omega) hq (by omega)
  rw [e, Option.bind_some]
  simp only
  rw [if_pos b0, if_pos b1]
  refine ⟨_, _, _, rfl, ?_, by omega, b3, hq'⟩
  obtain ⟨i, rfl⟩ : ∃ i : Nat, v = i := ⟨v.toNat, by omega⟩
  have hi : i < y.length := by omega
  rw [rdOf, Int.toNat_natCast, List.getD_eq_getElem?_getD, List.getElem?_eq_getElem hi]
  exact hz _ (List.getElem_mem hi)
theorem dec1 (n : Int) (h0 : 0 ≤ n) (h1 : n < 10) (k : Nat) : ∃ t, spec_l08Dec.f (k + 1) n = some t ∧ t.size = 1 := by
  rw [spec_l08Dec.f, if_neg (by omega), if_pos h1]
  exact ⟨_, rfl, by simp [strOfNums, ByteArray.size]⟩
theorem dec2 (n : Int) (h0 : 0 ≤ n) (h1 : n < 100) : ∃ t, (∀ k, spec_l08Dec.f (k + 2) n = some t) ∧ t.size ≤ 2 := by
  by_cases c : n < 10
  · obtain ⟨t, e, hs⟩ := dec1 n h0 c 0
    refine ⟨t, fun k => ?_, by omega⟩
    rw [spec_l08Dec.f, if_neg (by omega), if_pos c] at e ⊢
    exact e
  · have e1 : wrap64 (Int.tdiv n 10) = n / 10 := by rw [Int.tdiv_eq_ediv_of_nonneg h0, w64 (by omega) (by omega)]
    obtain ⟨t, e, hs⟩ := dec1 (n / 10) (by omega) (by omega) 0
    have e' : ∀ k, spec_l08Dec.f (k + 1) (n / 10) = some t := by
      intro k
      rw [spec_l08Dec.f, if_neg (by omega), if_pos (by omega)] at e ⊢
      exact e
    generalize hy : (strOfNums ([(wrap64 (48 + (Int.tmod n 10))) % 256] : List Int)) = y
    have hz : y.size = 1 := by rw [← hy]; simp [strOfNums, ByteArray.size]
    refine ⟨t ++ y, fun k => ?_, by rw [ByteArray.size_append]; omega⟩
    rw [spec_l08Dec.f, if_neg (by omega), if_neg c, e1, e' k]
    simp only [Option.bind_some]
    rw [hy, if_pos (by omega)]
theorem draw_ex (l : List Int) (hs : BytesOK l) : ∃ t n, Ev (fun k => spec_DrawRoute.f k l) (t, n) ∧ t.size ≤ 10 ∧ -1 ≤ n ∧ n ≤ 9 := by
  obtain ⟨q0, e0, hq0⟩ := src_start l hs.1
  obtain ⟨t1, a1, q1, e1, s1, b1, c1, hq1⟩ := word_ex l hs 0 q0 (by omega) (by omega) hq0
  obtain ⟨v2, a2, q2, e2, b2, b2', c2, c2', hq2⟩ := src_next l hs a1 q1 50 b1 (by omega) hq1 (by omega)
  obtain ⟨t3, e3, s3⟩ := dec2 v2 b2 (by omega)
  obtain ⟨v4, a4, q4, e4, b4, b4', c4, c4', hq4⟩ := src_next l hs a2 q2 11 (by omega) (by omega) hq2 (by omega)
  refine ⟨t1 ++ t3, wrap64 (v4 - 1), ⟨2, fun k hk => ?_⟩, by rw [ByteArray.size_append]; omega, by rw [w64 (by omega) (by omega)]; omega, by rw [w64 (by omega) (by omega)]; omega⟩
  obtain ⟨m, rfl⟩ : ∃ m, k = m + 2 := ⟨k - 2, by omega⟩
  show spec_DrawRoute.f (m + 2) l = _
  unfold spec_DrawRoute.f
  rw [e0, Option.bind_some]
  simp only
  rw [e1, Option.bind_some]
  simp only
  rw [e2, Option.bind_some]
  simp only
  rw [e3, Option.bind_some, if_pos (by omega), e4, Option.bind_some]
theorem sum_from (xs : List Int) (hx : xs.length ≤ 1048576) (d : Nat) : ∀ (i : Nat) (acc : Int), i + d = xs.length → 0 ≤ acc → acc < 4294967296 → ∃ v, Ev (fun k => impl_Sum32.l0 k acc xs (xs.length : Int) (i : Int)) v ∧ 0 ≤ v ∧ v < 4294967296 := by
  induction d with
  | zero =>
    intro i acc hi h0 h1
    refine ⟨acc, Ev.step (fun k => ?_) (Ev.now _), h0, h1⟩
    rw [impl_Sum32.l0, if_neg (by omega), w64 (by omega) (by omega)]
  | succ d ih =>
    intro i acc hi h0 h1
    obtain ⟨v, hv, v0, v1⟩ := ih (i + 1) (((Go.bits .xor .u32 acc ((rd xs (i : Int)) % 4294967296)) * 16777619) % 4294967296) (by omega) (Int.emod_nonneg _ (by omega)) (Int.emod_lt_of_pos _ (by omega))
    refine ⟨v, Ev.step (fun k => ?_) hv, v0, v1⟩
    have e : wrap64 ((i : Int) + 1) = ((i + 1 : Nat) : Int) := by rw [w64 (by omega) (by omega)]; omega
    rw [impl_Sum32.l0, if_pos (by omega), if_pos (by omega), if_pos (by omega), e]
theorem sum_ex (xs : List Int) (hx : xs.length ≤ 1048576) : ∃ v, Ev (fun k => impl_Sum32.f k xs) v ∧ 0 ≤ v ∧ v < 4294967296 := by
  unfold impl_Sum32.f
  obtain ⟨v, hv, v0, v1⟩ := sum_from xs hx xs.length 0 2166136261 (by omega) (by omega) (by omega)
  exact ⟨v, Ev.neg (by omega) hv, v0, v1⟩
theorem route_eq (t : ByteArray) (ht : t.size ≤ 10) (v : Int) (hv : Ev (fun k => impl_Sum32.f k (bytesOf t)) v) (v0 : 0 ≤ v) (n : Int) : Ev (fun k => impl_Route.f k t n) (if 1 ≤ n ∧ n ≤ 8 then v % n else -1) := by
  unfold impl_Route.f
  by_cases c1 : n < 1
  · rw [if_neg (by omega)]; exact Ev.pos c1 (Ev.now _)
  · by_cases c2 : n > 8
    · rw [if_neg (by omega)]; exact Ev.neg c1 (Ev.pos c2 (Ev.now _))
    · rw [if_pos (by omega)]
      refine Ev.neg c1 (Ev.neg c2 (Ev.neg (by omega) (Ev.pos (by omega) (Ev.bind hv (Ev.neg (by omega) ?_)))))
      rw [Int.tmod_eq_emod_of_nonneg v0]; exact Ev.now _
theorem FnRoute (l : List Int) (hw : l.length ≤ maxLen ∧ ∀ y0 ∈ l, (Lit.int .u8 y0).wf = true) : ∃ k, laws_FnRoute.f k l = some true := by
  refine Ev.rounds (g := fun k => laws_FnRoute.f k l) ?_
  unfold laws_FnRoute.f
  by_cases h : (l.length : Int) > 1048576
  · exact Ev.pos h (Ev.now _)
  · refine Ev.neg h ?_
    have hs : BytesOK l := by
      refine ⟨by omega, fun i hi => ?_⟩
      have := hw.2 l[i] (List.getElem_mem hi)
      rw [List.getD_eq_getElem?_getD, List.getElem?_eq_getElem hi]
      have h2 := wf8 this
      exact h2
    obtain ⟨t, n, hd, ht, n0, n1⟩ := draw_ex l hs
    obtain ⟨v, hv, v0, v1⟩ := sum_ex (bytesOf t) (by rw [bytesOf_length]; omega)
    refine Ev.bind hd ?_
    simp only
    refine Ev.bind (route_eq t ht v hv v0 n) ?_
    by_cases c1 : n < 1
    · refine Ev.pos c1 ?_
      refine Ev.step (fun k => by rw [laws_FnRoute.j0]) ?_
      refine Ev.pos rfl ?_
      rw [if_neg (by omega)]; exact Ev.now _
    · refine Ev.neg c1 ?_
      refine Ev.step (fun k => by rw [laws_FnRoute.j0]) ?_
      by_cases c2 : n > 8
      · refine Ev.pos (decide_eq_true c2) ?_
        rw [if_neg (by omega)]; exact Ev.now _
      · refine Ev.neg (by simp; omega) ?_
        rw [if_pos (by omega)]
        have m0 : 0 ≤ v % n := Int.emod_nonneg _ (by omega)
        have m1 : v % n < n := Int.emod_lt_of_pos _ (by omega)
        refine Ev.neg (by omega) ?_
        refine Ev.neg (by omega) ?_
        refine Ev.pos (by omega) ?_
        refine Ev.bind hv ?_
        refine Ev.neg (by omega) ?_
        refine Ev.pos (by rw [Int.tmod_eq_emod_of_nonneg v0]) ?_
        have e2 : wrap64 (2 * n) = 2 * n := w64 (by omega) (by omega)
        rw [e2]
        by_cases c3 : 2 * n > 8
        · exact Ev.pos c3 (Ev.now _)
        · refine Ev.neg c3 ?_
          refine Ev.bind (route_eq t ht v hv v0 (2 * n)) ?_
          rw [if_pos (by omega), Int.tmod_eq_emod_of_nonneg (Int.emod_nonneg _ (by omega)), Int.emod_emod_of_dvd _ ⟨2, by omega⟩]
          have e3 : (v % n == v % n) = true := beq_self_eq_true _
          rw [e3]; exact Ev.now _

end Go.Proofs.Ytfkejcakklpecaa.Pure
