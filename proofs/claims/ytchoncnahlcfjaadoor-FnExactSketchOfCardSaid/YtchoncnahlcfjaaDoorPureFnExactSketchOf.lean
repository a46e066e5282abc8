/- Whatever the texts, the program's SketchOf returns what the reference's returns, writes into no argument and hands out memory of its own: the law's function answers true. No condition. -/
import Derived.Test.YtchoncnahlcfjaaDoorXFnExactSketchOfx4
import Derived.Test.YtchoncnahlcfjaaDoorKit
import Derived.Lib.ItoaNum
import Derived.Lib.Bytes
import Derived.Test.YtchoncnahlcfjaaDoorWfFnExactSketchOf
set_option linter.unusedSimpArgs false
set_option linter.unusedVariables false
namespace Go.Proofs.YtchoncnahlcfjaaDoor.Pure
open Go.RowKit Go.Proofs.YtchoncnahlcfjaaDoor.XFnExactSketchOf Go.Proofs.YtchoncnahlcfjaaDoorW.PrintWords Go.Proofs.YtchoncnahlcfjaaDoorW.PrintLast Go.Proofs.YtchoncnahlcfjaaDoorW.PrintMore Go.Proofs.YtchoncnahlcfjaaDoor.Kit

theorem Ev.steps {α : Type} {g f : Nat → Option α} {r : α} (c : Nat) (h : ∀ k, g (k + c) = f k) (k : Ev f r) : Ev g r := by
  obtain ⟨K, hK⟩ := k
  refine ⟨K + c, fun n hn => ?_⟩
  have := h (n - c)
  rw [Nat.sub_add_cancel (by omega)] at this
  rw [this]; exact hK _ (by omega)

theorem Ev.pos {α : Type} {c : Prop} [Decidable c] {f g : Nat → Option α} {r : α} (h : c) (k : Ev f r) : Ev (fun n => if c then f n else g n) r := Ev.congr (fun n => if_pos h) k
theorem Ev.neg {α : Type} {c : Prop} [Decidable c] {f g : Nat → Option α} {r : α} (h : ¬ c) (k : Ev g r) : Ev (fun n => if c then f n else g n) r := Ev.congr (fun n => if_neg h) k
theorem Ev.ofEq {α : Type} {x : Option α} {r : α} (h : x = some r) : Ev (fun _ => x) r := ⟨0, fun _ _ => h⟩
theorem Ev.from {α : Type} {g : Nat → Option α} {r : α} (K : Nat) (h : ∀ k, K < k → g k = some r) : Ev g r := ⟨K + 1, fun k hk => h k (by omega)⟩


/-! ### A sketch of texts: the reference's marks of a text and the program's -/
theorem bytes_in (s : ByteArray) : ∀ x ∈ bytesOf s, 0 ≤ x ∧ x ≤ 255 := by
  intro x hx
  obtain ⟨b, _, rfl⟩ := List.mem_map.1 hx
  have := UInt8.toNat_lt b
  omega
theorem sumE (xs : List Int) (hn : xs.length ≤ 1048576) (hb : ∀ x ∈ xs, 0 ≤ x ∧ x ≤ 255) (d : Nat) : ∀ (i : Nat) (h : Int), i + d = xs.length → 0 ≤ h → h < 4294967296 →
    ∃ r : Int, (0 ≤ r ∧ r < 4294967296) ∧ Ev (fun k => spec_Sum32.l0 k xs h i) r ∧ Ev (fun k => impl_Sum32.l0 k h xs (xs.length : Int) i) r := by
  induction d with
  | zero =>
    intro i h hi h0 h1
    refine ⟨h, ⟨h0, h1⟩, Ev.step (fun k => ?_) (Ev.now _), Ev.step (fun k => ?_) (Ev.now _)⟩
    · rw [spec_Sum32.l0, if_neg (by omega)]
    · rw [impl_Sum32.l0, if_neg (by omega), w64 (by omega) (by omega)]
  | succ d ih =>
    intro i h hi h0 h1
    have hr := hb _ (rd_mem xs i (by omega))
    obtain ⟨c, hc0, hc1, e1, e2⟩ := xor32 h (rd xs i) h0 h1 hr.1 (by omega)
    have e : ((i : Int) + 1) = ((i + 1 : Nat) : Int) := by omega
    obtain ⟨r, hr', hs, hi'⟩ := ih (i + 1) ((c * 16777619) % 4294967296) (by omega) (by omega) (by omega)
    refine ⟨r, hr', Ev.step (fun k => ?_) hs, Ev.step (fun k => ?_) hi'⟩
    · rw [spec_Sum32.l0, if_pos (by omega), if_pos (by omega), w64 (x := rd xs i) (by omega) (by omega), e1, w64 (x := c * 16777619) (by omega) (by omega), w64 (by omega) (by omega), e,
        Int.tmod_eq_emod_of_nonneg (by omega)]
    · rw [impl_Sum32.l0, if_pos (by omega), if_pos (by omega), if_pos (by omega), Int.emod_eq_of_lt hr.1 (by omega), e2, w64 (by omega) (by omega), e]
theorem sum_ev (s : ByteArray) : ∃ r : Int, (0 ≤ r ∧ r < 4294967296) ∧ Ev (fun k => spec_Sum32.f k (bytesOf s)) r ∧ Ev (fun k => impl_Sum32.f k (bytesOf s)) r := by
  unfold spec_Sum32.f impl_Sum32.f
  by_cases h : ((bytesOf s).length : Int) > 1048576
  · exact ⟨0, ⟨by omega, by omega⟩, Ev.pos h (Ev.now _), Ev.pos h (Ev.now _)⟩
  · obtain ⟨r, hr, h1, h2⟩ := sumE (bytesOf s) (by omega) (bytes_in s) (bytesOf s).length 0 2166136261 (by omega) (by omega) (by omega)
    exact ⟨r, hr, Ev.neg h h1, Ev.neg h h2⟩
theorem stir_eq (t : Int) (h0 : 0 ≤ t) (h1 : t < 4294967296) : ∃ c : Nat, c < 4294967296 ∧
    (Go.bits .xor .i64 (Int.tmod (wrap64 ((Go.bits .xor .i64 t (wrap64 (Int.tdiv t 65536))) * 2146121005)) 4294967296) (wrap64 (Int.tdiv (Int.tmod (wrap64 ((Go.bits .xor .i64 t (wrap64 (Int.tdiv t 65536))) * 2146121005)) 4294967296) 8192))) = (c : Int) ∧
    (Go.bits .xor .u32 (((Go.bits .xor .u32 ((t) % 4294967296) (((t) % 4294967296) / 65536)) * 2146121005) % 4294967296) ((((Go.bits .xor .u32 ((t) % 4294967296) (((t) % 4294967296) / 65536)) * 2146121005) % 4294967296) / 8192)) = (c : Int) := by
  rw [Int.emod_eq_of_lt h0 h1, Int.tdiv_eq_ediv_of_nonneg h0, w64 (x := t / 65536) (by omega) (by omega)]
  obtain ⟨a, a0, a1, e1, e2⟩ := xor32 t (t / 65536) h0 h1 (by omega) (by omega)
  rw [e1, e2, w64 (x := a * 2146121005) (by omega) (by omega), Int.tmod_eq_emod_of_nonneg (by omega)]
  generalize hb : a * 2146121005 % 4294967296 = b
  have b0 : 0 ≤ b := by omega
  have b1 : b < 4294967296 := by omega
  rw [Int.tdiv_eq_ediv_of_nonneg b0, w64 (x := b / 8192) (by omega) (by omega)]
  obtain ⟨c, c0, c1, g1, g2⟩ := xor32 b (b / 8192) b0 b1 (by omega) (by omega)
  rw [g1, g2]
  exact ⟨c.toNat, by omega, by omega, by omega⟩
theorem ctz_fuel : ∀ (f x : Nat), 0 < x → x < 2 ^ f → Lib.ctzFrom (f + 1) x = Lib.ctzFrom f x := by
  intro f
  induction f with
  | zero => intro x h0 h1; simp at h1; omega
  | succ f ih =>
    intro x h0 h1
    rw [Nat.pow_succ] at h1
    show (if x % 2 = 1 then 0 else 1 + Lib.ctzFrom (f + 1) (x / 2)) = (if x % 2 = 1 then 0 else 1 + Lib.ctzFrom f (x / 2))
    by_cases c : x % 2 = 1
    · rw [if_pos c, if_pos c]
    · rw [if_neg c, if_neg c, ih (x / 2) (by omega) (by omega)]
theorem ctz_more (n f x : Nat) (h0 : 0 < x) (h1 : x < 2 ^ f) : Lib.ctzFrom (f + n) x = Lib.ctzFrom f x := by
  induction n with
  | zero => rfl
  | succ n ih =>
    rw [← Nat.add_assoc, ctz_fuel (f + n) x h0 (Nat.lt_of_lt_of_le h1 (Nat.pow_le_pow_right (by omega) (by omega))), ih]
theorem rank_ev (d : Nat) : ∀ i q : Nat, i + d = 25 → q < 2 ^ d → Ev (fun k => spec_l17Rank.l0 k (q : Int) (i : Int)) (if q = 0 then 25 else ((i + Lib.ctzFrom d q : Nat) : Int)) := by
  induction d with
  | zero =>
    intro i q hi hq
    have : q = 0 := by simp at hq; exact hq
    rw [if_pos this]
    refine Ev.step (fun k => ?_) (Ev.now _)
    rw [spec_l17Rank.l0, if_neg (by omega), show (i : Int) = 25 by omega]
  | succ d ih =>
    intro i q hi hq
    rw [Nat.pow_succ] at hq
    have e1 : Int.tmod (q : Int) 2 = ((q % 2 : Nat) : Int) := by rw [Int.tmod_eq_emod_of_nonneg (by omega)]; omega
    have e2 : wrap64 (Int.tdiv (q : Int) 2) = ((q / 2 : Nat) : Int) ∨ 9223372036854775807 < q := by
      by_cases h : q ≤ 9223372036854775807
      · left; rw [Int.tdiv_eq_ediv_of_nonneg (by omega), w64 (by omega) (by omega)]; omega
      · right; omega
    have hp : 2 ^ d ≤ 2 ^ 25 := Nat.pow_le_pow_right (by omega) (by omega)
    have e2 : wrap64 (Int.tdiv (q : Int) 2) = ((q / 2 : Nat) : Int) := e2.resolve_right (by omega)
    have e3 : wrap64 ((i : Int) + 1) = ((i + 1 : Nat) : Int) := by rw [w64 (by omega) (by omega)]; omega
    rw [Lib.ctzFrom]
    by_cases c : q % 2 = 1
    · rw [if_neg (by omega), if_pos c]
      refine Ev.step (fun k => ?_) (Ev.now _)
      rw [spec_l17Rank.l0, if_pos (by omega), e1, if_neg (by omega), Nat.add_zero]
    · have h := ih (i + 1) (q / 2) (by omega) (by omega)
      rw [show (if q = 0 then (25 : Int) else ((i + (if q % 2 = 1 then 0 else 1 + Lib.ctzFrom d (q / 2)) : Nat) : Int)) = (if q / 2 = 0 then 25 else ((i + 1 + Lib.ctzFrom d (q / 2) : Nat) : Int)) by
        rw [if_neg c]
        by_cases c0 : q = 0
        · rw [if_pos c0, if_pos (by omega)]
        · rw [if_neg c0, if_neg (by omega)]; omega]
      refine Ev.step (fun k => ?_) h
      rw [spec_l17Rank.l0, if_pos (by omega), e1, if_pos (by omega), e2, e3]
/-- A text's number and its rank, as both tell it. -/
theorem text_ev (s : ByteArray) (hs : s.size ≤ 9223372036854775807) : ∃ (c : Nat) (t : Int) (m : Int), Ev (fun k => spec_l17Stir.f k s) (c : Int) ∧ Ev (fun k => spec_l17Rank.f k (c : Int)) m ∧ Ev (fun k => impl_Sum32.f k (bytesOf s)) t ∧
    (Go.bits .xor .u32 (((Go.bits .xor .u32 ((t) % 4294967296) (((t) % 4294967296) / 65536)) * 2146121005) % 4294967296) ((((Go.bits .xor .u32 ((t) % 4294967296) (((t) % 4294967296) / 65536)) * 2146121005) % 4294967296) / 8192)) = (c : Int) ∧
    ((Int.tdiv (c : Int) 256) % 4294967296 = 0 ∧ m = 25 ∨ ¬ (Int.tdiv (c : Int) 256) % 4294967296 = 0 ∧ ∃ z, bits_TrailingZeros32.f ((Int.tdiv (c : Int) 256) % 4294967296) = some z ∧ wrap64 (1 + z) = m) := by
  obtain ⟨t, ⟨t0, t1⟩, hs1, hi1⟩ := sum_ev s
  obtain ⟨c, hc, g1, g2⟩ := stir_eq t t0 t1
  have e1 : Int.tdiv (c : Int) 256 = ((c / 256 : Nat) : Int) := by rw [Int.tdiv_eq_ediv_of_nonneg (by omega)]; omega
  have e2 : ((c / 256 : Nat) : Int) % 4294967296 = ((c / 256 : Nat) : Int) := Int.emod_eq_of_lt (by omega) (by omega)
  have hq : c / 256 < 2 ^ 24 := by omega
  have hr := rank_ev 24 1 (c / 256) (by omega) hq
  have e3 : wrap64 ((c / 256 : Nat) : Int) = ((c / 256 : Nat) : Int) := w64 (by omega) (by omega)
  refine ⟨c, t, (if c / 256 = 0 then 25 else ((1 + Lib.ctzFrom 24 (c / 256) : Nat) : Int)), ?_, ?_, hi1, g2, ?_⟩
  · unfold spec_l17Stir.f
    refine Ev.pos hs (Ev.bind hs1 ?_)
    rw [g1]; exact Ev.now _
  · unfold spec_l17Rank.f
    rw [e1, e3]; exact hr
  · rw [e1, e2]
    by_cases c0 : c / 256 = 0
    · left; exact ⟨by omega, if_pos c0⟩
    · right
      refine ⟨by omega, ((Lib.ctz 32 (c / 256) : Nat) : Int), ?_, ?_⟩
      · unfold bits_TrailingZeros32.f
        rw [if_pos (by omega), if_pos (by omega), Int.toNat_natCast]
      · rw [if_neg c0]
        have hz : Lib.ctz 32 (c / 256) = Lib.ctzFrom 24 (c / 256) := by
          unfold Lib.ctz; rw [if_neg c0]; exact ctz_more 8 24 (c / 256) (by omega) hq
        obtain ⟨_, _, hk⟩ := Lib.ctzFrom_spec 24 (c / 256) (by omega) hq
        rw [hz, w64 (by omega) (by omega)]; omega


/-! ### A sketch of texts: the two loops -/
theorem big_ev (l : List ByteArray) (hn : l.length ≤ 1048576) (d : Nat) : ∀ (i : Nat) (x : List Int), i + d = l.length → x.length = 256 → (∃ j : Nat, i ≤ j ∧ j < l.length ∧ (65536 : Int) < ((rdOf ByteArray.empty l (j : Int)).size : Int)) → Ev (fun k => spec_SketchOf.l0 k l (i : Int) x) (([] : List Int), 2) := by
  induction d with
  | zero => rintro i x hi hx ⟨j, h1, h2, _⟩; omega
  | succ d ih =>
    rintro i x hi hx ⟨j, h1, h2, h3⟩
    have e1 : wrap64 ((i : Int) + 1) = ((i + 1 : Nat) : Int) := by rw [w64 (by omega) (by omega)]; omega
    by_cases c : ((rdOf ByteArray.empty l (i : Int)).size : Int) > 65536
    · exact Ev.step (fun k => by rw [spec_SketchOf.l0]) (Ev.pos (by omega) (Ev.pos (by omega) (Ev.pos c (Ev.now _))))
    · obtain ⟨n, t, m, hs, hr, _⟩ := text_ev (rdOf ByteArray.empty l (i : Int)) (by omega)
      have hne : i ≠ j := by rintro rfl; omega
      have hi0 : Int.tmod (n : Int) 256 = ((n % 256 : Nat) : Int) := by rw [Int.tmod_eq_emod_of_nonneg (by omega)]; omega
      refine Ev.step (fun k => by rw [spec_SketchOf.l0]) ?_
      refine Ev.pos (by omega) (Ev.pos (by omega) (Ev.neg c ?_))
      refine Ev.bind hs ?_
      refine Ev.pos (by omega) (Ev.pos (by omega) ?_)
      refine Ev.bind hr ?_
      rw [e1]
      exact ih (i + 1) _ (by omega) (by rw [List.length_set]; exact hx) ⟨j, by omega, h2, h3⟩
theorem small_ev (l : List ByteArray) (hn : l.length ≤ 1048576) (hb : ∀ j : Nat, j < l.length → ¬ (65536 : Int) < ((rdOf ByteArray.empty l (j : Int)).size : Int)) (d : Nat) : ∀ (i : Nat) (x : List Int), i + d = l.length → x.length = 256 →
    ∃ r : List Int, r.length = 256 ∧ Ev (fun k => spec_SketchOf.l0 k l (i : Int) x) (r, 0) ∧ Ev (fun k => impl_SketchOf.l0 k l (l.length : Int) (i : Int) x) (r, 0) := by
  induction d with
  | zero =>
    intro i x hi hx
    refine ⟨x, hx, Ev.step (fun k => ?_) (Ev.now _), Ev.step (fun k => ?_) (Ev.now _)⟩
    · rw [spec_SketchOf.l0, if_neg (by omega)]
    · rw [impl_SketchOf.l0, if_neg (by omega)]
  | succ d ih =>
    intro i x hi hx
    have c := hb i (by omega)
    have e1 : wrap64 ((i : Int) + 1) = ((i + 1 : Nat) : Int) := by rw [w64 (by omega) (by omega)]; omega
    obtain ⟨n, t, m, hs, hr, hi', ht, hm⟩ := text_ev (rdOf ByteArray.empty l (i : Int)) (by omega)
    have hi0 : Int.tmod (n : Int) 256 = ((n % 256 : Nat) : Int) := by rw [Int.tmod_eq_emod_of_nonneg (by omega)]; omega
    obtain ⟨r, hl, h1, h2⟩ := ih (i + 1) (x.set (Int.tmod (n : Int) 256).toNat (mx (rd x (Int.tmod (n : Int) 256)) m)) (by omega) (by rw [List.length_set]; exact hx)
    refine ⟨r, hl, ?_, ?_⟩
    · refine Ev.step (fun k => by rw [spec_SketchOf.l0]) ?_
      refine Ev.pos (by omega) (Ev.pos (by omega) (Ev.neg c ?_))
      refine Ev.bind hs ?_
      refine Ev.pos (by omega) (Ev.pos (by omega) ?_)
      refine Ev.bind hr ?_
      rw [e1]; exact h1
    · refine Ev.step (fun k => by rw [impl_SketchOf.l0]) ?_
      refine Ev.pos (by omega) (Ev.pos (by omega) (Ev.pos (by omega) (Ev.pos (by omega) ?_)))
      refine Ev.bind hi' ?_
      rw [ht, e1]
      rcases hm with ⟨q, rfl⟩ | ⟨q, z, hz, rfl⟩
      · exact Ev.pos q (Ev.pos (by omega) (Ev.pos (by omega) h2))
      · exact Ev.neg q (Ev.bind (Ev.ofEq hz) (Ev.pos (by omega) (Ev.pos (by omega) h2)))
theorem rdS_get (l : List ByteArray) (j : Nat) (h : j < l.length) : rdOf ByteArray.empty l (j : Int) = l[j] := by
  rw [rdOf, Int.toNat_natCast, List.getD_eq_getElem?_getD, List.getElem?_eq_getElem h]; rfl
theorem sketchOf_both (l : List ByteArray) : ∃ r : List Int × Int, r.1.length ≤ 256 ∧ Ev (fun k => spec_SketchOf.f k l) r ∧ Ev (fun k => impl_SketchOf.f k l) r := by
  unfold spec_SketchOf.f impl_SketchOf.f
  by_cases h : (l.length : Int) > 4096
  · refine ⟨([], 2), by simp, Ev.pos h (Ev.now _), Ev.pos h (Ev.step (fun k => by rw [impl_SketchOf.j0]) (Ev.pos rfl (Ev.now _)))⟩
  · by_cases hb : l.any impl_SketchOf_1_contains.p = true
    · obtain ⟨s, hs, hp⟩ := List.any_eq_true.1 hb
      obtain ⟨j, hj, rfl⟩ := List.mem_iff_getElem.1 hs
      have hp : (65536 : Int) < (l[j].size : Int) := of_decide_eq_true hp
      refine ⟨([], 2), by simp, Ev.neg h (Ev.pos (by decide) ?_), Ev.neg h ?_⟩
      · exact big_ev l (by omega) l.length 0 _ (by omega) List.length_replicate ⟨j, by omega, hj, by rw [rdS_get l j hj]; exact hp⟩
      · refine Ev.bind (Ev.ofEq (by rw [impl_SketchOf_1_contains.f, hb])) ?_
        exact Ev.step (fun k => by rw [impl_SketchOf.j0]) (Ev.pos rfl (Ev.now _))
    · have hb' : ∀ j : Nat, j < l.length → ¬ (65536 : Int) < ((rdOf ByteArray.empty l (j : Int)).size : Int) := by
        intro j hj hc
        rw [rdS_get l j hj] at hc
        exact hb (List.any_eq_true.2 ⟨l[j], List.getElem_mem hj, decide_eq_true hc⟩)
      obtain ⟨r, hr, h1, h2⟩ := small_ev l (by omega) hb' l.length 0 (List.replicate 256 0) (by omega) List.length_replicate
      have hf : impl_SketchOf_1_contains.f l = some false := by rw [impl_SketchOf_1_contains.f, Bool.eq_false_iff.2 hb]
      refine ⟨(r, 0), by simp only; omega, Ev.neg h (Ev.pos (by decide) h1), Ev.neg h ?_⟩
      refine Ev.bind (Ev.ofEq hf) ?_
      refine Ev.step (fun k => by rw [impl_SketchOf.j0]) ?_
      refine Ev.neg Bool.false_ne_true ?_
      exact Ev.pos (by decide) h2

/-! ### Rows of texts: equal, marked, held -/
theorem wnS (i : Nat) (h : i ≤ 281474976710656) : wrap64 ((i : Int) + 1) = ((i + 1 : Nat) : Int) := by rw [w64 (by omega) (by omega)]; omega
theorem eqSE (xs : List ByteArray) (hn : xs.length ≤ 140737488351232) : Ev (fun k => laws_eqStringS.f k xs xs) true := by
  unfold laws_eqStringS.f
  refine Ev.pos rfl ?_
  have key : ∀ d i, i + d = xs.length → Ev (fun k => laws_eqStringS.l0 k xs xs (i : Int)) true := by
    intro d
    induction d with
    | zero => intro i hi; exact Ev.step (fun k => by rw [laws_eqStringS.l0, if_neg (by omega)]) (Ev.now _)
    | succ d ih =>
      intro i hi
      refine Ev.step (fun k => ?_) (ih (i + 1) (by omega))
      rw [laws_eqStringS.l0, if_pos (by omega), if_pos (by omega), if_pos (by omega), if_pos rfl, wnS i (by omega)]
  exact key xs.length 0 (by omega)
theorem markText_ex (n : Nat) : ∀ acc : ByteArray, acc.size + n ≤ 9223372036854775000 → ∃ t, Ev (fun k => laws_markText.l0 k (n : Int) acc) t := by
  induction n using Nat.strongRecOn with
  | _ n ih =>
    intro acc h
    by_cases c : n = 0
    · subst c
      refine ⟨(⟨#[109]⟩ : ByteArray) ++ acc, Ev.step (fun k => ?_) (Ev.now _)⟩
      rw [laws_markText.l0, if_neg (by omega), if_pos (by omega)]
    · have e0 : wrap64 (Int.tdiv (n : Int) 10) = ((n / 10 : Nat) : Int) := by rw [Int.tdiv_eq_ediv_of_nonneg (by omega), w64 (by omega) (by omega)]; omega
      generalize hy : (strOfNums ([(wrap64 (48 + (Int.tmod (n : Int) 10))) % 256] : List Int)) = y
      have hz : y.size = 1 := by rw [← hy]; simp [strOfNums, ByteArray.size]
      obtain ⟨t, ht⟩ := ih (n / 10) (by omega) (y ++ acc) (by rw [ByteArray.size_append]; omega)
      refine ⟨t, Ev.step (fun k => ?_) ht⟩
      rw [laws_markText.l0, if_pos (by omega), Option.bind_some, hy, if_pos (by omega), e0]
theorem markText_ev (n : Nat) (h : n ≤ 9223372036854775000) : ∃ t, Ev (fun k => laws_markText.f k (n : Int)) t := by
  unfold laws_markText.f
  by_cases c : (n : Int) ≤ 0
  · exact ⟨_, Ev.pos c (Ev.now _)⟩
  · obtain ⟨t, ht⟩ := markText_ex n (⟨#[]⟩ : ByteArray) (by show 0 + n ≤ _; omega)
    exact ⟨t, Ev.neg c ht⟩
theorem marksSE (xs : List ByteArray) (a : Nat) (hn : xs.length ≤ 140737488351232) (ha : a ≤ 140737488351232) : ∃ ys : List ByteArray, ys.length = xs.length ∧ Ev (fun k => laws_markStringS.f k xs (a : Int)) (((a + xs.length : Nat) : Int), ys) := by
  have hc : ∀ i : Nat, ∃ t, i ≤ 9223372036854775000 → Ev (fun k => laws_markText.f k (i : Int)) t := by
    intro i
    by_cases h : i ≤ 9223372036854775000
    · obtain ⟨t, ht⟩ := markText_ev i h; exact ⟨t, fun _ => ht⟩
    · exact ⟨ByteArray.empty, fun h' => absurd h' h⟩
  obtain ⟨mt, hmt⟩ : ∃ mt : Nat → ByteArray, ∀ i : Nat, i ≤ 9223372036854775000 → Ev (fun k => laws_markText.f k (i : Int)) (mt i) := ⟨fun i => Classical.choose (hc i), fun i => Classical.choose_spec (hc i)⟩
  let full := (List.range xs.length).map (fun i => mt (a + i))
  have hfl : full.length = xs.length := by simp [full]
  have hmark : ∀ d i, i + d = xs.length → Ev (fun k => laws_markStringS.l0 k (full.take i ++ xs.drop i) ((a + i : Nat) : Int) (i : Int)) (((a + xs.length : Nat) : Int), full) := by
    intro d
    induction d with
    | zero =>
      intro i hi
      obtain rfl : i = xs.length := by omega
      refine Ev.step (fun k => ?_) (Ev.now _)
      rw [laws_markStringS.l0, if_neg (by simp; omega), List.drop_length, List.append_nil, List.take_of_length_le (by omega)]
    | succ d ih =>
      intro i hi
      have hi' : i < xs.length := by omega
      refine Ev.step (f := fun k => (laws_markText.f k ((a + i : Nat) : Int)).bind fun t => laws_markStringS.l0 k ((full.take i ++ xs.drop i).set i t) ((a + (i + 1) : Nat) : Int) ((i + 1 : Nat) : Int)) (fun k => ?_) (Ev.bind (hmt (a + i) (by omega)) ?_)
      · rw [laws_markStringS.l0, if_pos (by simp; omega), wnS (a + i) (by omega), wnS i (by omega)]
        congr 1
      · have e : (full.take i ++ xs.drop i).set i (mt (a + i)) = full.take (i + 1) ++ xs.drop (i + 1) := by
          rw [List.set_append_right i (mt (a + i)) (by simp; omega)]
          simp only [List.length_take]
          rw [Nat.min_eq_left (by omega), Nat.sub_self, List.drop_eq_getElem_cons hi', List.set_cons_zero, List.take_succ_eq_append_getElem (by omega), List.append_assoc]
          have : full[i]'(by omega) = mt (a + i) := by simp [full]
          rw [this]; rfl
        rw [e]; exact ih (i + 1) (by omega)
  refine ⟨full, hfl, ?_⟩
  have h := hmark xs.length 0 (by omega)
  rw [List.take_zero, List.nil_append, List.drop_zero] at h
  exact h

theorem toSE (xs : List ByteArray) (hn : xs.length ≤ 17592186044416) : Ev (fun k => laws_toStringS.f k xs) xs := by
  unfold laws_toStringS.f
  refine Ev.pos (by omega) (Ev.pos (by omega) ?_)
  rw [Int.toNat_natCast]
  have key : ∀ d i, i + d = xs.length → Ev (fun k => laws_toStringS.l0 k xs (xs.take i ++ List.replicate (xs.length - i) (⟨#[]⟩ : ByteArray)) (i : Int)) xs := by
    intro d
    induction d with
    | zero =>
      intro i hi
      obtain rfl : i = xs.length := by omega
      refine Ev.step (fun k => ?_) (Ev.now _)
      rw [laws_toStringS.l0, if_neg (by omega), Nat.sub_self, List.replicate_zero, List.append_nil, List.take_of_length_le (Nat.le_refl _)]
    | succ d ih =>
      intro i hi
      have hi' : i < xs.length := by omega
      refine Ev.step (fun k => ?_) (ih (i + 1) (by omega))
      rw [laws_toStringS.l0, if_pos (by omega), if_pos (by omega), if_pos (by simp; omega), wnS i (by omega), rdS_get xs i hi', Int.toNat_natCast]
      congr 1
      rw [List.set_append_right i _ (by simp; omega), List.length_take, Nat.min_eq_left (by omega), Nat.sub_self, show xs.length - i = (xs.length - (i + 1)) + 1 by omega, List.replicate_succ, List.set_cons_zero, List.take_succ_eq_append_getElem hi', List.append_assoc]
      rfl
  have h := key xs.length 0 (by omega)
  rw [List.take_zero, List.nil_append, Nat.sub_zero] at h
  exact h
theorem szSE (xs : List ByteArray) (hn : xs.length ≤ 9223372036854775807) (hb : ∀ y ∈ xs, y.size ≤ 9223372036854775807) : ∃ r : Int, Ev (fun k => laws_szStringS.f k xs 1048576) r ∧ (0 ≤ r → xs.length ≤ 1048576) := by
  unfold laws_szStringS.f
  have e0 : wrap64 (1048576 - (xs.length : Int)) = 1048576 - (xs.length : Int) := w64 (by omega) (by omega)
  rw [e0]
  by_cases h : (1048576 : Int) - (xs.length : Int) < 0
  · exact ⟨-1, Ev.pos h (Ev.now _), by omega⟩
  · have key : ∀ d i (a : Int), i + d = xs.length → 0 ≤ a → a ≤ 1048576 → ∃ r : Int, Ev (fun k => laws_szStringS.l0 k xs a (i : Int)) r := by
      intro d
      induction d with
      | zero => intro i a hi h0 h1; exact ⟨a, Ev.step (fun k => by rw [laws_szStringS.l0, if_neg (by omega)]) (Ev.now _)⟩
      | succ d ih =>
        intro i a hi h0 h1
        have hi' : i < xs.length := by omega
        have hy := hb _ (List.getElem_mem hi')
        rw [← rdS_get xs i hi'] at hy
        have e1 : wrap64 (a - ((rdOf ByteArray.empty xs (i : Int)).size : Int)) = a - ((rdOf ByteArray.empty xs (i : Int)).size : Int) := w64 (by omega) (by omega)
        by_cases c : a - ((rdOf ByteArray.empty xs (i : Int)).size : Int) < 0
        · refine ⟨-1, Ev.step (fun k => by rw [laws_szStringS.l0, e1]) (Ev.pos (by omega) (Ev.pos (by omega) (Ev.pos c (Ev.now _))))⟩
        · obtain ⟨r, hr⟩ := ih (i + 1) _ (by omega) (by omega : 0 ≤ a - ((rdOf ByteArray.empty xs (i : Int)).size : Int)) (by omega)
          refine ⟨r, Ev.step (fun k => by rw [laws_szStringS.l0, e1, wnS i (by omega)]) (Ev.pos (by omega) (Ev.pos (by omega) (Ev.neg c hr)))⟩
    obtain ⟨r, hr⟩ := key xs.length 0 _ (by omega) (by omega : (0 : Int) ≤ 1048576 - (xs.length : Int)) (by omega)
    exact ⟨r, Ev.neg h hr, fun _ => by omega⟩
theorem eqI (xs : List Int) (hn : xs.length ≤ 140737488351232) (k : Nat) (hk : xs.length < k) : laws_eqIntS.f k xs xs = some true := by
  unfold laws_eqIntS.f
  rw [if_pos rfl]
  exact eqS_all laws_eqIntS.l0 (fun _ _ _ _ => rfl) xs (by omega) k hk
theorem eqE (l : List Int) (h : l.length ≤ 1048576) : Ev (fun k => laws_eqSketch.f k l l) true :=
  Ev.congr (f := fun k => (laws_eqIntS.f k l l).bind fun t => if t = true then some true else some false) (fun k => rfl) (Ev.bind (Ev.from l.length (fun k hk => eqI l (by omega) k hk)) (Ev.pos rfl (Ev.now _)))
theorem marksE (xs : List Int) (a : Nat) (h : xs.length ≤ 1048576) (ha : a ≤ 10000000) : ∃ ys : List Int, ys.length = xs.length ∧ Ev (fun k => laws_markSketch.f k xs (a : Int)) (((a + xs.length : Nat) : Int), ys) ∧ Ev (fun k => laws_heldSketch.f k ys (a : Int)) ((a + xs.length : Nat) : Int) := by
  obtain ⟨ys, h1, h2, h3⟩ := marks (fun x => x) laws_markIntS.l0 laws_heldIntS.l0 (fun _ _ _ _ => rfl) (fun _ _ _ _ => rfl) xs a (by omega)
  refine ⟨ys, h1, ?_, ?_⟩
  · exact Ev.congr (f := fun k => (laws_markIntS.f k xs (a : Int)).bind fun t => some (t.1, t.2)) (fun k => rfl) (Ev.bind (Ev.from xs.length h2) (Ev.now _))
  · refine Ev.congr (f := fun k => (laws_heldIntS.f k ys (a : Int)).bind fun t => if t < 0 then some (-1) else some t) (fun k => rfl) (Ev.bind (Ev.from xs.length h3) ?_)
    exact Ev.neg (by omega) (Ev.now _)
theorem FnExactSketchOf (l : List ByteArray) (hl : l.length ≤ maxLen ∧ ∀ y0 ∈ l, y0.size ≤ maxLen) : ∃ k, laws_FnExactSketchOf.f k l = some true := by
  have hl1 : l.length ≤ 9223372036854775807 := hl.1
  have hl2 : ∀ y ∈ l, y.size ≤ 9223372036854775807 := hl.2
  refine Ev.rounds (g := fun k => laws_FnExactSketchOf.f k l) ?_
  unfold laws_FnExactSketchOf.f
  obtain ⟨z, hz, hz'⟩ := szSE l hl1 hl2
  refine Ev.bind hz ?_
  by_cases h : z < 0
  · exact Ev.pos h (Ev.now _)
  · refine Ev.neg h ?_
    have hn := hz' (by omega)
    have tA := toSE l (by omega)
    obtain ⟨⟨r, e⟩, hr, hs, hi⟩ := sketchOf_both l
    simp only at hr
    have qR := eqE r (by omega)
    obtain ⟨ys1, hy1, hm1⟩ := marksSE l 1 (by omega) (by omega)
    obtain ⟨ys3, hy3, hm3, hh3⟩ := marksE r 1 (by omega) (by omega)
    refine Ev.bind tA ?_
    refine Ev.bind hs ?_
    refine Ev.bind tA ?_
    refine Ev.bind hi ?_
    refine Ev.bind qR ?_
    refine Ev.pos rfl ?_
    simp only [bne_self_eq_false]
    refine Ev.step (fun k => by rw [laws_FnExactSketchOf.j0]) ?_
    refine Ev.neg Bool.false_ne_true ?_
    refine Ev.bind tA ?_
    refine Ev.bind (eqSE l (by omega)) ?_
    refine Ev.pos rfl ?_
    refine Ev.bind hm1 ?_
    refine Ev.neg (by simp only; omega) ?_
    refine Ev.bind qR ?_
    refine Ev.pos rfl ?_
    refine Ev.step (fun k => by rw [laws_FnExactSketchOf.j1]) ?_
    refine Ev.neg (by simp) ?_
    refine Ev.bind hm3 ?_
    refine Ev.bind hh3 ?_
    refine Ev.neg (by omega) ?_
    refine Ev.pos rfl ?_
    refine Ev.bind tA ?_
    refine Ev.bind hi ?_
    refine Ev.bind qR ?_
    refine Ev.pos rfl ?_
    refine Ev.step (fun k => by rw [laws_FnExactSketchOf.j2]) ?_
    refine Ev.neg (by simp) ?_
    refine Ev.bind hh3 ?_
    refine Ev.neg (by omega) ?_
    exact Ev.pos rfl (Ev.now _)

end Go.Proofs.YtchoncnahlcfjaaDoor.Pure
