/- Whatever the analyzer, the program's AnalyzerOK tells what the reference's AnalyzerOK tells and writes into no argument: the law answers true. No condition. -/
import Derived.Test.YtfkejcakklpecaaDoorXFnExactAnalyzerOKx7
import Derived.Test.YtfkejcakklpecaaDoorKit
import Derived.Lib.ItoaNum
import Derived.Lib.Bytes
import Derived.Test.YtfkejcakklpecaaDoorWfFnExactAnalyzerOK
set_option linter.unusedSimpArgs false
set_option linter.unusedVariables false
namespace Go.Proofs.YtfkejcakklpecaaDoor.Pure
open Go.RowKit Go.Proofs.YtfkejcakklpecaaDoor.XFnExactAnalyzerOK Go.Proofs.YtfkejcakklpecaaDoorW.PrintWords Go.Proofs.YtfkejcakklpecaaDoorW.PrintLast Go.Proofs.YtfkejcakklpecaaDoorW.PrintMore Go.Proofs.YtfkejcakklpecaaDoor.Kit

theorem Ev.steps {α : Type} {g f : Nat → Option α} {r : α} (c : Nat) (h : ∀ k, g (k + c) = f k) (k : Ev f r) : Ev g r := by
  obtain ⟨K, hK⟩ := k
  refine ⟨K + c, fun n hn => ?_⟩
  have := h (n - c)
  rw [Nat.sub_add_cancel (by omega)] at this
  rw [this]; exact hK _ (by omega)

theorem Ev.pos {α : Type} {c : Prop} [Decidable c] {f g : Nat → Option α} {r : α} (h : c) (k : Ev f r) : Ev (fun n => if c then f n else g n) r := Ev.congr (fun n => if_pos h) k
theorem Ev.neg {α : Type} {c : Prop} [Decidable c] {f g : Nat → Option α} {r : α} (h : ¬ c) (k : Ev g r) : Ev (fun n => if c then f n else g n) r := Ev.congr (fun n => if_neg h) k
theorem Ev.ofEq {α : Type} {x : Option α} {r : α} (h : x = some r) : Ev (fun _ => x) r := ⟨0, fun _ _ => h⟩
theorem Ev.from {α : Type} {g : Nat → Option α} {r : α} (K : Nat) (h : ∀ k, K < k → g k = some r) : Ev g r := ⟨K + 1, fun k hk => h k (by omega)⟩

/-! ### Copies and equality of rows of whatever kind -/
theorem conv_all {α β : Type} (L : Nat → List α → List β → Int → Option (List β)) (xs : List α) (g : α → β) (z : β)
    (hs : ∀ (i : Nat) (hi : i < xs.length) (ys : List β) (r : List β), ys.length = xs.length → Ev (fun k => L k xs (ys.set i (g xs[i])) ((i + 1 : Nat) : Int)) r → Ev (fun k => L k xs ys (i : Int)) r)
    (he : ∀ ys : List β, Ev (fun k => L k xs ys (xs.length : Int)) ys) : Ev (fun k => L k xs (List.replicate xs.length z) 0) (xs.map g) := by
  have key : ∀ (d i : Nat) (ys : List β), i + d = xs.length → ys.length = xs.length → ys.take i = (xs.map g).take i → Ev (fun k => L k xs ys (i : Int)) (xs.map g) := by
    intro d
    induction d with
    | zero =>
      intro i ys hi hl ht
      have e : ys = xs.map g := by
        rw [← List.take_of_length_le (i := i) (l := ys) (by omega), ht, List.take_of_length_le (by simp; omega)]
      have h := he ys
      rw [show (i : Int) = (xs.length : Int) by omega, ← e]
      exact h
    | succ d ih =>
      intro i ys hi hl ht
      have hlt : i < xs.length := by omega
      refine hs i hlt ys _ hl (ih (i + 1) _ (by omega) (by simp [hl]) ?_)
      rw [List.take_succ_eq_append_getElem (by rw [List.length_set]; omega), List.take_succ_eq_append_getElem (by simp; omega), List.getElem_set_self, List.take_set_of_le (Nat.le_refl _), ht, List.getElem_map]
  have h := key xs.length 0 (List.replicate xs.length z) (by omega) (by simp) (by simp)
  exact h

theorem same_all {α : Type} (L : Nat → List α → List α → Int → Option Bool) (xs : List α)
    (hs : ∀ (i : Nat) (_ : i < xs.length), Ev (fun k => L k xs xs ((i + 1 : Nat) : Int)) true → Ev (fun k => L k xs xs (i : Int)) true)
    (he : Ev (fun k => L k xs xs (xs.length : Int)) true) : Ev (fun k => L k xs xs 0) true := by
  have key : ∀ (d i : Nat), i + d = xs.length → Ev (fun k => L k xs xs (i : Int)) true := by
    intro d
    induction d with
    | zero => intro i hi; rw [show (i : Int) = (xs.length : Int) by omega]; exact he
    | succ d ih => intro i hi; exact hs i (by omega) (ih (i + 1) (by omega))
  exact key xs.length 0 (by omega)

theorem getD_in {α : Type} (xs : List α) (z : α) (i : Nat) (hi : i < xs.length) : xs.getD i z = xs[i] := by
  rw [List.getD_eq_getElem?_getD, List.getElem?_eq_getElem hi]; rfl

def eb (a : Int) : List Int := if a < 128 then [a] else if a < 2048 then [192 + a / 64, 128 + a % 64] else if a < 65536 then [224 + a / 4096, 128 + a / 64 % 64, 128 + a % 64] else [240 + a / 262144, 128 + a / 4096 % 64, 128 + a / 64 % 64, 128 + a % 64]
def chOK (a : Int) : Bool := decide (0 ≤ a ∧ a ≤ 1114111 ∧ (a < 55296 ∨ 57343 < a))

theorem chOK_iff (a : Int) : chOK a = true ↔ 0 ≤ a ∧ a ≤ 1114111 ∧ (a < 55296 ∨ 57343 < a) := by simp [chOK]

theorem eb_length (a : Int) : 1 ≤ (eb a).length ∧ (eb a).length ≤ 4 := by
  unfold eb; (repeat' split) <;> simp

theorem charOK_eq (a : Int) : spec_l01CharOK.f a = some (chOK a) := by
  unfold spec_l01CharOK.f chOK
  (repeat' split) <;> (congr 1; rw [Bool.eq_iff_iff]; simp; try omega)

theorem bytes_eq (a : Int) (h : chOK a = true) : spec_l01Bytes.f a = some (eb a) := by
  obtain ⟨h0, h1, _⟩ := (chOK_iff a).1 h
  unfold spec_l01Bytes.f eb
  simp only [Int.tdiv_eq_ediv_of_nonneg h0, Int.tmod_eq_emod_of_nonneg h0]
  have d1 : wrap64 (a / 64) = a / 64 := w64 (by omega) (by omega)
  have d2 : wrap64 (a / 4096) = a / 4096 := w64 (by omega) (by omega)
  have d3 : wrap64 (a / 262144) = a / 262144 := w64 (by omega) (by omega)
  rw [d1, d2, d3]
  have m1 : Int.tmod (a / 64) 64 = a / 64 % 64 := Int.tmod_eq_emod_of_nonneg (by omega)
  have m2 : Int.tmod (a / 4096) 64 = a / 4096 % 64 := Int.tmod_eq_emod_of_nonneg (by omega)
  rw [m1, m2]
  have b0 : wrap64 (128 + a % 64) % 256 = 128 + a % 64 := by rw [w64 (by omega) (by omega)]; omega
  have b1 : wrap64 (128 + a / 64 % 64) % 256 = 128 + a / 64 % 64 := by rw [w64 (by omega) (by omega)]; omega
  have b2 : wrap64 (128 + a / 4096 % 64) % 256 = 128 + a / 4096 % 64 := by rw [w64 (by omega) (by omega)]; omega
  rw [b0, b1, b2]
  by_cases c1 : a < 128
  · rw [if_pos c1, if_pos c1, Int.emod_eq_of_lt h0 (by omega)]
  · rw [if_neg c1, if_neg c1]
    by_cases c2 : a < 2048
    · rw [if_pos c2, if_pos c2, w64 (x := 192 + a / 64) (by omega) (by omega), Int.emod_eq_of_lt (a := 192 + a / 64) (by omega) (by omega)]
    · rw [if_neg c2, if_neg c2]
      by_cases c3 : a < 65536
      · rw [if_pos c3, if_pos c3, w64 (x := 224 + a / 4096) (by omega) (by omega), Int.emod_eq_of_lt (a := 224 + a / 4096) (by omega) (by omega)]
      · rw [if_neg c3, if_neg c3, w64 (x := 240 + a / 262144) (by omega) (by omega), Int.emod_eq_of_lt (a := 240 + a / 262144) (by omega) (by omega)]


def impl_Decode.runes (s : ByteArray) : Nat → Nat → List Int
  | 0, _ => []
  | n + 1, pos => if pos < s.size then ((Utf8.decode s pos).1 : Int) :: impl_Decode.runes s n (pos + (Utf8.decode s pos).2) else []
/-! ### Decoding -/
theorem bt_get (s : ByteArray) (i : Nat) : bt s (i : Int) = ((s.get! i).toNat : Int) := by
  have h := Lib.getD_get!' s i
  unfold bt
  rw [Int.toNat_natCast]
  by_cases c : i < s.size
  · rw [dif_pos c, ← h, List.getD_eq_getElem?_getD, List.getElem?_eq_getElem (by rw [data_length]; exact c)]; rfl
  · rw [dif_neg c, ← h, List.getD_eq_getElem?_getD, List.getElem?_eq_none (by rw [data_length]; omega)]; rfl

/-- What the reference's look at a place tells, out of the decoder's step. -/
def stepR (d : Nat × Nat) : Int × Int := if d.1 = 65533 ∧ d.2 = 1 then (0, 0) else ((d.1 : Int), (d.2 : Int))
def finR (v n : Int) : Int × Int := if chOK v = true ∧ ((eb v).length : Int) = n then (v, n) else (0, 0)

theorem l0_end (s : ByteArray) (pos n v : Int) (k : Nat) : spec_l01At.l0 (k + 1) s pos n v n = some (finR v n) := by
  rw [spec_l01At.l0, if_neg (by omega), charOK_eq, Option.bind_some, finR]
  by_cases c : chOK v = true
  · rw [if_pos c, bytes_eq v c, Option.bind_some]
    by_cases c2 : ((eb v).length : Int) = n
    · rw [if_pos c2, if_pos ⟨c, c2⟩]
    · rw [if_neg c2, if_neg (fun h => c2 h.2)]
  · rw [if_neg c, if_neg (fun h => c h.1)]

theorem l0_step (s : ByteArray) (pos i n : Nat) (v : Int) (k : Nat) (hs : s.size ≤ 1048576) (hi : i < n) (hin : pos + i < s.size) (h0 : 0 ≤ v) (h1 : v ≤ 100000000) (b : Nat) (hb : (s.get! (pos + i)).toNat = b) :
    spec_l01At.l0 (k + 1) s (pos : Int) (n : Int) v (i : Int) = if b / 64 = 2 then spec_l01At.l0 k s (pos : Int) (n : Int) (v * 64 + ((b % 64 : Nat) : Int)) ((i + 1 : Nat) : Int) else some (0, 0) := by
  have hlt : b < 256 := by rw [← hb]; exact UInt8.toNat_lt _
  have e1 : Aside0 (wrap64 ((pos : Int) + (i : Int)) = ((pos + i : Nat) : Int)) := ⟨by rw [w64 (by omega) (by omega)]; omega⟩
  have e2 : Aside0 (wrap64 ((i : Int) + 1) = ((i + 1 : Nat) : Int)) := ⟨by rw [w64 (by omega) (by omega)]; omega⟩
  have e3 : Aside0 (wrap64 (b : Int) = (b : Int)) := ⟨w64 (by omega) (by omega)⟩
  rw [spec_l01At.l0, if_pos (by omega), e1.out, if_pos (by omega), if_pos (by omega), bt_get, hb, e3.out, e2.out]
  by_cases c1 : (b : Int) < 128
  · rw [if_pos c1, if_neg (by omega)]
  · rw [if_neg c1]
    by_cases c2 : (b : Int) > 191
    · rw [if_pos c2, if_neg (by omega)]
    · have e4 : wrap64 (wrap64 (wrap64 (v * 64) + (b : Int)) - 128) = v * 64 + ((b % 64 : Nat) : Int) := by
        rw [w64 (x := v * 64) (by omega) (by omega), w64 (x := v * 64 + (b : Int)) (by omega) (by omega), w64 (by omega) (by omega)]; omega
      rw [if_neg c2, if_pos (by omega), e4]

theorem at2 (s : ByteArray) (pos : Nat) (v : Int) (hs : s.size ≤ 1048576) (hp : pos < s.size) (h0 : 0 ≤ v) (h1 : v ≤ 1000) (b1 : Nat) (hb1 : (s.get! (pos + 1)).toNat = b1) :
    Ev (fun k => spec_l01At.j0 k s (pos : Int) 2 v) (if 1 < s.size - pos ∧ b1 / 64 = 2 then finR (v * 64 + ((b1 % 64 : Nat) : Int)) 2 else (0, 0)) := by
  have e1 : Aside0 (wrap64 ((pos : Int) + 2) = ((pos + 2 : Nat) : Int)) := ⟨by rw [w64 (by omega) (by omega)]; omega⟩
  by_cases c : 1 < s.size - pos
  · have hst := fun k => l0_step s pos 1 2 v k hs (by omega) (by omega) h0 (by omega) b1 hb1
    by_cases d : b1 / 64 = 2
    · rw [if_pos ⟨c, d⟩]
      refine Ev.steps 3 (fun k => ?_) (Ev.now _)
      have h := hst (k + 1)
      rw [if_pos d] at h
      rw [spec_l01At.j0, e1.out, if_neg (by omega)]
      exact h.trans (l0_end s _ _ _ _)
    · rw [if_neg (fun h => d h.2)]
      refine Ev.steps 2 (fun k => ?_) (Ev.now _)
      have h := hst k
      rw [if_neg d] at h
      rw [spec_l01At.j0, e1.out, if_neg (by omega)]
      exact h
  · rw [if_neg (fun h => c h.1)]
    refine Ev.step (fun k => ?_) (Ev.now _)
    rw [spec_l01At.j0, e1.out, if_pos (by omega)]

theorem at3 (s : ByteArray) (pos : Nat) (v : Int) (hs : s.size ≤ 1048576) (hp : pos < s.size) (h0 : 0 ≤ v) (h1 : v ≤ 1000) (b1 b2 : Nat) (hb1 : (s.get! (pos + 1)).toNat = b1) (hb2 : (s.get! (pos + 2)).toNat = b2) :
    Ev (fun k => spec_l01At.j0 k s (pos : Int) 3 v) (if 2 < s.size - pos ∧ b1 / 64 = 2 ∧ b2 / 64 = 2 then finR ((v * 64 + ((b1 % 64 : Nat) : Int)) * 64 + ((b2 % 64 : Nat) : Int)) 3 else (0, 0)) := by
  have e1 : Aside0 (wrap64 ((pos : Int) + 3) = ((pos + 3 : Nat) : Int)) := ⟨by rw [w64 (by omega) (by omega)]; omega⟩
  by_cases c : 2 < s.size - pos
  · have hst := fun k => l0_step s pos 1 3 v k hs (by omega) (by omega) h0 (by omega) b1 hb1
    by_cases d : b1 / 64 = 2
    · have hst2 := fun k => l0_step s pos 2 3 (v * 64 + ((b1 % 64 : Nat) : Int)) k hs (by omega) (by omega) (by omega) (by omega) b2 hb2
      by_cases d2 : b2 / 64 = 2
      · rw [if_pos ⟨c, d, d2⟩]
        refine Ev.steps 4 (fun k => ?_) (Ev.now _)
        have h := hst (k + 2)
        rw [if_pos d] at h
        have h2 := hst2 (k + 1)
        rw [if_pos d2] at h2
        rw [spec_l01At.j0, e1.out, if_neg (by omega)]
        exact h.trans (h2.trans (l0_end s _ _ _ _))
      · rw [if_neg (fun h => d2 h.2.2)]
        refine Ev.steps 3 (fun k => ?_) (Ev.now _)
        have h := hst (k + 1)
        rw [if_pos d] at h
        have h2 := hst2 k
        rw [if_neg d2] at h2
        rw [spec_l01At.j0, e1.out, if_neg (by omega)]
        exact h.trans h2
    · rw [if_neg (fun h => d h.2.1)]
      refine Ev.steps 2 (fun k => ?_) (Ev.now _)
      have h := hst k
      rw [if_neg d] at h
      rw [spec_l01At.j0, e1.out, if_neg (by omega)]
      exact h
  · rw [if_neg (fun h => c h.1)]
    refine Ev.step (fun k => ?_) (Ev.now _)
    rw [spec_l01At.j0, e1.out, if_pos (by omega)]

theorem at4 (s : ByteArray) (pos : Nat) (v : Int) (hs : s.size ≤ 1048576) (hp : pos < s.size) (h0 : 0 ≤ v) (h1 : v ≤ 1000) (b1 b2 b3 : Nat) (hb1 : (s.get! (pos + 1)).toNat = b1) (hb2 : (s.get! (pos + 2)).toNat = b2) (hb3 : (s.get! (pos + 3)).toNat = b3) :
    Ev (fun k => spec_l01At.j0 k s (pos : Int) 4 v) (if 3 < s.size - pos ∧ b1 / 64 = 2 ∧ b2 / 64 = 2 ∧ b3 / 64 = 2 then finR (((v * 64 + ((b1 % 64 : Nat) : Int)) * 64 + ((b2 % 64 : Nat) : Int)) * 64 + ((b3 % 64 : Nat) : Int)) 4 else (0, 0)) := by
  have e1 : Aside0 (wrap64 ((pos : Int) + 4) = ((pos + 4 : Nat) : Int)) := ⟨by rw [w64 (by omega) (by omega)]; omega⟩
  by_cases c : 3 < s.size - pos
  · have hst := fun k => l0_step s pos 1 4 v k hs (by omega) (by omega) h0 (by omega) b1 hb1
    by_cases d : b1 / 64 = 2
    · have hst2 := fun k => l0_step s pos 2 4 (v * 64 + ((b1 % 64 : Nat) : Int)) k hs (by omega) (by omega) (by omega) (by omega) b2 hb2
      by_cases d2 : b2 / 64 = 2
      · have hst3 := fun k => l0_step s pos 3 4 ((v * 64 + ((b1 % 64 : Nat) : Int)) * 64 + ((b2 % 64 : Nat) : Int)) k hs (by omega) (by omega) (by omega) (by omega) b3 hb3
        by_cases d3 : b3 / 64 = 2
        · rw [if_pos ⟨c, d, d2, d3⟩]
          refine Ev.steps 5 (fun k => ?_) (Ev.now _)
          have h := hst (k + 3)
          rw [if_pos d] at h
          have h2 := hst2 (k + 2)
          rw [if_pos d2] at h2
          have h3 := hst3 (k + 1)
          rw [if_pos d3] at h3
          rw [spec_l01At.j0, e1.out, if_neg (by omega)]
          exact h.trans (h2.trans (h3.trans (l0_end s _ _ _ _)))
        · rw [if_neg (fun h => d3 h.2.2.2)]
          refine Ev.steps 4 (fun k => ?_) (Ev.now _)
          have h := hst (k + 2)
          rw [if_pos d] at h
          have h2 := hst2 (k + 1)
          rw [if_pos d2] at h2
          have h3 := hst3 k
          rw [if_neg d3] at h3
          rw [spec_l01At.j0, e1.out, if_neg (by omega)]
          exact h.trans (h2.trans h3)
      · rw [if_neg (fun h => d2 h.2.2.1)]
        refine Ev.steps 3 (fun k => ?_) (Ev.now _)
        have h := hst (k + 1)
        rw [if_pos d] at h
        have h2 := hst2 k
        rw [if_neg d2] at h2
        rw [spec_l01At.j0, e1.out, if_neg (by omega)]
        exact h.trans h2
    · rw [if_neg (fun h => d h.2.1)]
      refine Ev.steps 2 (fun k => ?_) (Ev.now _)
      have h := hst k
      rw [if_neg d] at h
      rw [spec_l01At.j0, e1.out, if_neg (by omega)]
      exact h
  · rw [if_neg (fun h => c h.1)]
    refine Ev.step (fun k => ?_) (Ev.now _)
    rw [spec_l01At.j0, e1.out, if_pos (by omega)]

theorem eb_len (v : Int) : ((eb v).length : Int) = if v < 128 then 1 else if v < 2048 then 2 else if v < 65536 then 3 else 4 := by
  unfold eb
  repeat' split
  all_goals simp
theorem finR_ok (v n : Int) (h : chOK v = true) (hl : ((eb v).length : Int) = n) : finR v n = (v, n) := by unfold finR; rw [if_pos ⟨h, hl⟩]
theorem finR_len (v n : Int) (hl : ((eb v).length : Int) ≠ n) : finR v n = (0, 0) := by unfold finR; rw [if_neg (fun h => hl h.2)]
theorem finR_ch (v n : Int) (h : ¬ (chOK v = true)) : finR v n = (0, 0) := by unfold finR; rw [if_neg (fun h' => h h'.1)]
theorem stepR_bad : stepR (65533, 1) = (0, 0) := rfl
theorem stepR_wide (v n : Nat) (h : n ≠ 1) : stepR (v, n) = ((v : Int), (n : Int)) := by unfold stepR; rw [if_neg (fun h' => h h'.2)]

theorem dec1 (m b0 b1 b2 b3 : Nat) (h : b0 < 128) : stepR (Lib.decodeN m b0 b1 b2 b3) = ((b0 : Int), 1) := by
  unfold Lib.decodeN
  rw [if_pos h, stepR, if_neg (by simp only; omega)]; rfl
theorem dec0 (m b0 b1 b2 b3 : Nat) (h : 128 ≤ b0) (h' : b0 < 192) : stepR (Lib.decodeN m b0 b1 b2 b3) = (0, 0) := by
  unfold Lib.decodeN
  rw [if_neg (by omega), if_neg (by omega), if_neg (by omega), if_neg (by omega)]; rfl
theorem dec2 (m b0 b1 b2 b3 : Nat) (h : 192 ≤ b0) (h' : b0 < 224) : stepR (Lib.decodeN m b0 b1 b2 b3) = if 1 < m ∧ b1 / 64 = 2 then finR (((b0 : Int) - 192) * 64 + ((b1 % 64 : Nat) : Int)) 2 else (0, 0) := by
  unfold Lib.decodeN
  rw [if_neg (by omega)]
  by_cases c : 1 < m ∧ b1 / 64 = 2
  · rw [if_pos ⟨by omega, c⟩, if_pos c]
    have e : ((b0 : Int) - 192) * 64 + ((b1 % 64 : Nat) : Int) = ((b0 % 32 * 64 + b1 % 64 : Nat) : Int) := by omega
    rw [e]
    have hv : b0 % 32 * 64 + b1 % 64 < 2048 := by omega
    generalize b0 % 32 * 64 + b1 % 64 = v at *
    by_cases d : v ≥ 128
    · rw [if_pos d, stepR_wide _ _ (by decide), finR_ok _ _ ((chOK_iff _).2 ⟨by omega, by omega, by omega⟩) (by rw [eb_len, if_neg (by omega), if_pos (by omega)])]; rfl
    · rw [if_neg d, stepR_bad, finR_len _ _ (by rw [eb_len, if_pos (by omega)]; decide)]
  · rw [if_neg (fun h => c h.2), if_neg (by omega), if_neg (by omega), if_neg c, stepR_bad]
theorem dec3 (m b0 b1 b2 b3 : Nat) (h : 224 ≤ b0) (h' : b0 < 240) : stepR (Lib.decodeN m b0 b1 b2 b3) = if 2 < m ∧ b1 / 64 = 2 ∧ b2 / 64 = 2 then finR ((((b0 : Int) - 224) * 64 + ((b1 % 64 : Nat) : Int)) * 64 + ((b2 % 64 : Nat) : Int)) 3 else (0, 0) := by
  unfold Lib.decodeN
  rw [if_neg (by omega), if_neg (by omega)]
  by_cases c : 2 < m ∧ b1 / 64 = 2 ∧ b2 / 64 = 2
  · rw [if_pos ⟨by omega, ⟨by omega, c.2.1⟩, c.1, c.2.2⟩, if_pos c]
    have e : (((b0 : Int) - 224) * 64 + ((b1 % 64 : Nat) : Int)) * 64 + ((b2 % 64 : Nat) : Int) = ((b0 % 16 * 4096 + b1 % 64 * 64 + b2 % 64 : Nat) : Int) := by omega
    rw [e]
    have hv : b0 % 16 * 4096 + b1 % 64 * 64 + b2 % 64 < 65536 := by omega
    generalize b0 % 16 * 4096 + b1 % 64 * 64 + b2 % 64 = v at *
    by_cases d : v ≥ 2048
    · by_cases d2 : v < 55296 ∨ 57344 ≤ v ∧ v ≤ 1114111
      · rw [if_pos ⟨d, d2⟩, stepR_wide _ _ (by decide), finR_ok _ _ ((chOK_iff _).2 ⟨by omega, by omega, by omega⟩) (by rw [eb_len, if_neg (by omega), if_neg (by omega), if_pos (by omega)])]; rfl
      · rw [if_neg (fun h => d2 h.2), stepR_bad, finR_ch _ _ (fun h => by have := (chOK_iff _).1 h; omega)]
    · rw [if_neg (fun h => d h.1), stepR_bad, finR_len _ _ (by rw [eb_len]; split <;> (try split) <;> omega)]
  · rw [if_neg (fun h => c ⟨h.2.2.1, h.2.1.2, h.2.2.2⟩), if_neg (by omega), if_neg c, stepR_bad]
theorem dec4 (m b0 b1 b2 b3 : Nat) (h : 240 ≤ b0) (h' : b0 < 256) : stepR (Lib.decodeN m b0 b1 b2 b3) = if 3 < m ∧ b1 / 64 = 2 ∧ b2 / 64 = 2 ∧ b3 / 64 = 2 then finR (((((b0 : Int) - 240) * 64 + ((b1 % 64 : Nat) : Int)) * 64 + ((b2 % 64 : Nat) : Int)) * 64 + ((b3 % 64 : Nat) : Int)) 4 else (0, 0) := by
  unfold Lib.decodeN
  rw [if_neg (by omega), if_neg (by omega), if_neg (by omega)]
  by_cases c : 3 < m ∧ b1 / 64 = 2 ∧ b2 / 64 = 2 ∧ b3 / 64 = 2
  · rw [if_pos c]
    by_cases g : b0 < 248
    · rw [if_pos ⟨by omega, ⟨by omega, c.2.1⟩, ⟨by omega, c.2.2.1⟩, c.1, c.2.2.2⟩]
      have e : ((((b0 : Int) - 240) * 64 + ((b1 % 64 : Nat) : Int)) * 64 + ((b2 % 64 : Nat) : Int)) * 64 + ((b3 % 64 : Nat) : Int) = ((b0 % 8 * 262144 + b1 % 64 * 4096 + b2 % 64 * 64 + b3 % 64 : Nat) : Int) := by omega
      rw [e]
      generalize b0 % 8 * 262144 + b1 % 64 * 4096 + b2 % 64 * 64 + b3 % 64 = v at *
      by_cases d : v ≥ 65536
      · by_cases d2 : v < 55296 ∨ 57344 ≤ v ∧ v ≤ 1114111
        · rw [if_pos ⟨d, d2⟩, stepR_wide _ _ (by decide), finR_ok _ _ ((chOK_iff _).2 ⟨by omega, by omega, by omega⟩) (by rw [eb_len, if_neg (by omega), if_neg (by omega), if_neg (by omega)])]; rfl
        · rw [if_neg (fun h => d2 h.2), stepR_bad, finR_ch _ _ (fun h => by have := (chOK_iff _).1 h; omega)]
      · rw [if_neg (fun h => d h.1), stepR_bad, finR_len _ _ (by rw [eb_len]; split <;> (try split) <;> (try split) <;> omega)]
    · rw [if_neg (by omega), stepR_bad, finR_ch _ _ (fun h => by have := (chOK_iff _).1 h; omega)]
  · rw [if_neg (fun h => c ⟨h.2.2.2.1, h.2.1.2, h.2.2.1.2, h.2.2.2.2⟩), if_neg c, stepR_bad]

theorem at_step (s : ByteArray) (pos : Nat) (hs : s.size ≤ 1048576) (hp : pos < s.size) : Ev (fun k => spec_l01At.f k s (pos : Int)) (stepR (Utf8.decode s pos)) := by
  rw [Lib.decode_at]
  generalize hm : s.size - pos = m
  obtain ⟨b0, hb0⟩ : ∃ b, (s.get! pos).toNat = b := ⟨_, rfl⟩
  obtain ⟨b1, hb1⟩ : ∃ b, (s.get! (pos + 1)).toNat = b := ⟨_, rfl⟩
  obtain ⟨b2, hb2⟩ : ∃ b, (s.get! (pos + 2)).toNat = b := ⟨_, rfl⟩
  obtain ⟨b3, hb3⟩ : ∃ b, (s.get! (pos + 3)).toNat = b := ⟨_, rfl⟩
  have hlt : b0 < 256 := by rw [← hb0]; exact UInt8.toNat_lt _
  rw [hb0, hb1, hb2, hb3]
  have e3 : Aside0 (wrap64 (b0 : Int) = (b0 : Int)) := ⟨w64 (by omega) (by omega)⟩
  unfold spec_l01At.f
  rw [bt_get, hb0, e3.out]
  refine Ev.pos (by omega) (Ev.pos (by omega) ?_)
  by_cases c1 : b0 < 128
  · rw [dec1 m b0 b1 b2 b3 c1]
    exact Ev.pos (by omega) (Ev.now _)
  · refine Ev.neg (by omega) ?_
    by_cases c2 : b0 ≥ 240
    · have e4 : wrap64 ((b0 : Int) - 240) = (b0 : Int) - 240 := w64 (by omega) (by omega)
      rw [dec4 m b0 b1 b2 b3 c2 hlt, e4, ← hm]
      exact Ev.pos (by omega) (at4 s pos _ hs hp (by omega) (by omega) b1 b2 b3 hb1 hb2 hb3)
    · refine Ev.neg (by omega) ?_
      by_cases c3 : b0 ≥ 224
      · have e4 : wrap64 ((b0 : Int) - 224) = (b0 : Int) - 224 := w64 (by omega) (by omega)
        rw [dec3 m b0 b1 b2 b3 c3 (by omega), e4, ← hm]
        exact Ev.pos (by omega) (at3 s pos _ hs hp (by omega) (by omega) b1 b2 hb1 hb2)
      · refine Ev.neg (by omega) ?_
        by_cases c4 : b0 ≥ 192
        · have e4 : wrap64 ((b0 : Int) - 192) = (b0 : Int) - 192 := w64 (by omega) (by omega)
          rw [dec2 m b0 b1 b2 b3 c4 (by omega), e4, ← hm]
          exact Ev.pos (by omega) (at2 s pos _ hs hp (by omega) (by omega) b1 hb1)
        · rw [dec0 m b0 b1 b2 b3 (by omega) (by omega)]
          exact Ev.neg (by omega) (Ev.now _)

/-! ### The whole text -/
def badAt (s : ByteArray) (pos : Nat) : Bool := decide ((Utf8.decode s pos).1 = 65533 ∧ (Utf8.decode s pos).2 = 1)
def validFrom (s : ByteArray) : Nat → Nat → Bool
  | 0, _ => true
  | n + 1, pos => if pos < s.size then (if badAt s pos then false else validFrom s n (pos + (Utf8.decode s pos).2)) else true

theorem decode_len (s : ByteArray) (pos : Nat) : (Utf8.decode s pos).2 ≤ 4 := by
  rw [Lib.decode_at]
  unfold Lib.decodeN
  repeat' split
  all_goals simp

theorem spec_loop (s : ByteArray) (hs : s.size ≤ 1048576) (fuel : Nat) : ∀ (pos : Nat) (acc : List Int), s.size ≤ pos + fuel → acc.length ≤ pos →
    Ev (fun k => spec_l01Decode.l0 k s acc (pos : Int)) (if validFrom s fuel pos then (acc ++ impl_Decode.runes s fuel pos, true) else ([], false)) := by
  induction fuel with
  | zero =>
    intro pos acc h1 h2
    rw [validFrom, if_pos rfl, impl_Decode.runes, List.append_nil]
    refine Ev.step (fun k => ?_) (Ev.now _)
    rw [spec_l01Decode.l0, if_neg (by omega)]
  | succ n ih =>
    intro pos acc h1 h2
    rw [validFrom, impl_Decode.runes]
    by_cases hp : pos < s.size
    · have hat := at_step s pos hs hp
      have hw := Lib.width_pos s pos
      have hw4 := decode_len s pos
      rw [if_pos hp, if_pos hp]
      refine Ev.step (f := fun k => (spec_l01At.f k s (pos : Int)).bind fun bt120 => if bt120.2 = 0 then some ([], false) else if acc.length < 17592186044416 then spec_l01Decode.l0 k s (acc ++ [bt120.1]) (wrap64 ((pos : Int) + bt120.2)) else none) (fun k => by rw [spec_l01Decode.l0, if_pos (by omega)]) (Ev.bind hat ?_)
      by_cases hb : badAt s pos = true
      · rw [if_pos hb]
        have hb' := of_decide_eq_true hb
        have e : stepR (Utf8.decode s pos) = (0, 0) := by unfold stepR; rw [if_pos hb']
        rw [e]
        exact Ev.pos rfl (Ev.now _)
      · rw [if_neg hb]
        have hb' : ¬ ((Utf8.decode s pos).1 = 65533 ∧ (Utf8.decode s pos).2 = 1) := fun h => hb (decide_eq_true h)
        have e : stepR (Utf8.decode s pos) = (((Utf8.decode s pos).1 : Int), ((Utf8.decode s pos).2 : Int)) := by unfold stepR; rw [if_neg hb']
        have e5 : wrap64 ((pos : Int) + ((Utf8.decode s pos).2 : Int)) = ((pos + (Utf8.decode s pos).2 : Nat) : Int) := by rw [w64 (by omega) (by omega)]; omega
        rw [e]
        simp only
        rw [e5]
        refine Ev.neg (by omega) (Ev.pos (by omega) ?_)
        have h' := ih (pos + (Utf8.decode s pos).2) (acc ++ [((Utf8.decode s pos).1 : Int)]) (by omega) (by simp; omega)
        rw [List.append_assoc] at h'
        exact h'
    · rw [if_neg hp, if_pos rfl, if_neg hp, List.append_nil]
      refine Ev.step (fun k => ?_) (Ev.now _)
      rw [spec_l01Decode.l0, if_neg (by omega)]

theorem decode_drop (s : ByteArray) (pos : Nat) : Lib.decodeL (s.data.toList.drop pos) = Utf8.decode s pos := by
  unfold Lib.decodeL
  have hsz : (⟨(s.data.toList.drop pos).toArray⟩ : ByteArray).size = s.size - pos := by
    show (s.data.toList.drop pos).toArray.size = _
    rw [List.size_toArray, List.length_drop, data_length]
  have hg : ∀ j, (⟨(s.data.toList.drop pos).toArray⟩ : ByteArray).get! j = s.get! (pos + j) := by
    intro j
    rw [← Lib.getD_get!', ← Lib.getD_get!']
    show (s.data.toList.drop pos).getD j 0 = _
    rw [List.getD_eq_getElem?_getD, List.getD_eq_getElem?_getD, List.getElem?_drop]
  rw [Lib.decode_at, Lib.decode_at, hsz, hg, hg, hg, hg]; rfl

theorem valid_from (s : ByteArray) (fuel : Nat) : ∀ pos : Nat, s.size ≤ pos + fuel → Lib.validD (s.data.toList.drop pos) = validFrom s fuel pos := by
  induction fuel with
  | zero =>
    intro pos h
    rw [List.drop_of_length_le (by rw [data_length]; omega), validFrom]; rfl
  | succ n ih =>
    intro pos h
    rw [validFrom]
    by_cases hp : pos < s.size
    · have hne : s.data.toList.drop pos ≠ [] := by
        intro e
        have := congrArg List.length e
        rw [List.length_drop, data_length] at this
        simp at this; omega
      have hw := Lib.width_pos s pos
      rw [if_pos hp, Lib.validD_step _ hne, decode_drop, List.drop_drop, ih (pos + (Utf8.decode s pos).2) (by omega)]
      unfold badAt
      by_cases hb : (Utf8.decode s pos).1 = 65533 ∧ (Utf8.decode s pos).2 = 1
      · rw [if_pos hb, decide_eq_true hb]; rfl
      · rw [if_neg hb, decide_eq_false hb]; rfl
    · rw [if_neg hp, List.drop_of_length_le (by rw [data_length]; omega)]; rfl

theorem valid_all (s : ByteArray) : Lib.validD s.data.toList = validFrom s s.size 0 := by
  have := valid_from s s.size 0 (by omega)
  rwa [List.drop_zero] at this

theorem l01Decode_eq (s : ByteArray) (hs : s.size ≤ 1048576) : Ev (fun k => spec_l01Decode.f k s) (if Lib.validD s.data.toList = true then (impl_Decode.runes s s.size 0, true) else ([], false)) := by
  have h := spec_loop s hs s.size 0 [] (by omega) (by simp)
  rw [List.nil_append] at h
  rw [valid_all]
  exact h

/-! ### Rows of texts: equal, marked, held -/
theorem wnS (i : Nat) (h : i ≤ 281474976710656) : wrap64 ((i : Int) + 1) = ((i + 1 : Nat) : Int) := by rw [w64 (by omega) (by omega)]; omega
theorem eqSE (xs : List ByteArray) (hn : xs.length ≤ 140737488351232) : Ev (fun k => laws_eqStringS.f k xs xs) true := by
  unfold laws_eqStringS.f
  refine Ev.pos rfl ?_
  have key : ∀ d i, i + d = xs.length → Ev (fun k => laws_eqStringS.l0 k xs xs (i : Int)) true := by
    intro d
    induction d with
    | zero => intro i hi; exact Ev.step (fun k => by rw [laws_eqStringS.l0, if_neg (by omega)]) (Ev.now _)
    | succ d ih =>
      intro i hi
      refine Ev.step (fun k => ?_) (ih (i + 1) (by omega))
      rw [laws_eqStringS.l0, if_pos (by omega), if_pos (by omega), if_pos (by omega), if_pos rfl, wnS i (by omega)]
  exact key xs.length 0 (by omega)

theorem n0 : ((0 : Nat) : Int) = 0 := rfl
theorem rdS (xs : List ByteArray) (i : Nat) (hi : i < xs.length) : rdOf ByteArray.empty xs (i : Int) = xs[i] := by rw [rdOf, Int.toNat_natCast, List.getD_eq_getElem?_getD, List.getElem?_eq_getElem hi]; rfl
theorem rd45 (xs : List S45) (i : Nat) (hi : i < xs.length) : rd_T45 xs (i : Int) = xs[i] := by unfold rd_T45; rw [Int.toNat_natCast, getD_in xs _ i hi]
theorem rd38 (xs : List S38) (i : Nat) (hi : i < xs.length) : rd_T38 xs (i : Int) = xs[i] := by unfold rd_T38; rw [Int.toNat_natCast, getD_in xs _ i hi]
def toSyn (x : S45) : S38 := ⟨x.f0, x.f1⟩

/-! ### The law's measure -/
theorem szS_loop (xs : List ByteArray) (hl : xs.length ≤ 1048576) (hx : ∀ y ∈ xs, y.size ≤ 9223372036854775807) (d : Nat) : ∀ (i : Nat) (a : Int), i + d = xs.length → 0 ≤ a → a ≤ 1048576 →
    ∃ r, Ev (fun k => laws_szStringS.l0 k xs a (i : Int)) r ∧ (r = -1 ∨ (0 ≤ r ∧ r ≤ 1048576 ∧ ∀ j (hj : j < xs.length), i ≤ j → xs[j].size ≤ 1048576)) := by
  induction d with
  | zero =>
    intro i a hi h0 h1
    refine ⟨a, Ev.step (fun k => ?_) (Ev.now _), .inr ⟨h0, h1, fun j hj hij => by omega⟩⟩
    rw [laws_szStringS.l0, if_neg (by omega)]
  | succ d ih =>
    intro i a hi h0 h1
    have hlt : i < xs.length := by omega
    have hz := hx _ (List.getElem_mem hlt)
    have e1 : Aside0 (wrap64 (a - (xs[i].size : Int)) = a - (xs[i].size : Int)) := ⟨w64 (by omega) (by omega)⟩
    have e2 := wnS i (by omega)
    by_cases c : a - (xs[i].size : Int) < 0
    · refine ⟨-1, Ev.step (fun k => ?_) (Ev.now _), .inl rfl⟩
      rw [laws_szStringS.l0, if_pos (by omega), if_pos (by omega), rdS xs i hlt, e1.out, if_pos c]
    · obtain ⟨r, hr, hc⟩ := ih (i + 1) (a - (xs[i].size : Int)) (by omega) (by omega) (by omega)
      refine ⟨r, Ev.step (fun k => ?_) hr, ?_⟩
      · rw [laws_szStringS.l0, if_pos (by omega), if_pos (by omega), rdS xs i hlt, e1.out, if_neg c, e2]
      · rcases hc with hc | ⟨h3, h4, h5⟩
        · exact .inl hc
        · refine .inr ⟨h3, h4, fun j hj hij => ?_⟩
          by_cases e : j = i
          · subst e; omega
          · exact h5 j hj (by omega)
theorem szS_eq (xs : List ByteArray) (hm : xs.length ≤ 9223372036854775807) (hx : ∀ y ∈ xs, y.size ≤ 9223372036854775807) :
    ∃ r, Ev (fun k => laws_szStringS.f k xs 1048576) r ∧ (r = -1 ∨ (0 ≤ r ∧ r ≤ 1048576 ∧ xs.length ≤ 1048576 ∧ ∀ y ∈ xs, y.size ≤ 1048576)) := by
  have e : Aside0 (wrap64 (1048576 - (xs.length : Int)) = 1048576 - (xs.length : Int)) := ⟨w64 (by omega) (by omega)⟩
  unfold laws_szStringS.f
  rw [e.out]
  by_cases c : 1048576 - (xs.length : Int) < 0
  · exact ⟨-1, Ev.pos c (Ev.now _), .inl rfl⟩
  · obtain ⟨r, hr, hc⟩ := szS_loop xs (by omega) hx xs.length 0 (1048576 - (xs.length : Int)) (by omega) (by omega) (by omega)
    rw [n0] at hr
    refine ⟨r, Ev.neg c hr, ?_⟩
    rcases hc with hc | ⟨h3, h4, h5⟩
    · exact .inl hc
    · refine .inr ⟨h3, h4, by omega, fun y hy => ?_⟩
      obtain ⟨j, hj, rfl⟩ := List.getElem_of_mem hy
      exact h5 j hj (by omega)
theorem szY_one (x : S45) (h0 : x.f0.size ≤ 9223372036854775807) (h1 : x.f1.size ≤ 9223372036854775807) (a : Int) (a0 : 0 ≤ a) (a1 : a ≤ 1048576) :
    ∃ r, laws_szSynonym.f x.f0 x.f1 a = some r ∧ (r = -1 ∨ (0 ≤ r ∧ r ≤ 1048576 ∧ x.f0.size ≤ 1048576 ∧ x.f1.size ≤ 1048576)) := by
  unfold laws_szSynonym.f
  have e1 : Aside0 (wrap64 (a - (x.f0.size : Int)) = a - (x.f0.size : Int)) := ⟨w64 (by omega) (by omega)⟩
  rw [e1.out]
  by_cases c : a - (x.f0.size : Int) < 0
  · exact ⟨-1, by rw [if_pos c], .inl rfl⟩
  · have e2 : Aside0 (wrap64 (a - (x.f0.size : Int) - (x.f1.size : Int)) = a - (x.f0.size : Int) - (x.f1.size : Int)) := ⟨w64 (by omega) (by omega)⟩
    rw [if_neg c, e2.out]
    by_cases c2 : a - (x.f0.size : Int) - (x.f1.size : Int) < 0
    · exact ⟨-1, by rw [if_pos c2], .inl rfl⟩
    · exact ⟨_, by rw [if_neg c2], .inr ⟨by omega, by omega, by omega, by omega⟩⟩
theorem szY_loop (xs : List S45) (hl : xs.length ≤ 1048576) (hx : ∀ y ∈ xs, y.f0.size ≤ 9223372036854775807 ∧ y.f1.size ≤ 9223372036854775807) (d : Nat) : ∀ (i : Nat) (a : Int), i + d = xs.length → 0 ≤ a → a ≤ 1048576 →
    ∃ r, Ev (fun k => laws_szSynonymS.l0 k xs a (i : Int)) r ∧ (r = -1 ∨ (0 ≤ r ∧ ∀ j (hj : j < xs.length), i ≤ j → xs[j].f0.size ≤ 1048576 ∧ xs[j].f1.size ≤ 1048576)) := by
  induction d with
  | zero =>
    intro i a hi h0 h1
    refine ⟨a, Ev.step (fun k => ?_) (Ev.now _), .inr ⟨h0, fun j hj hij => by omega⟩⟩
    rw [laws_szSynonymS.l0, if_neg (by omega)]
  | succ d ih =>
    intro i a hi h0 h1
    have hlt : i < xs.length := by omega
    obtain ⟨g0, g1⟩ := hx _ (List.getElem_mem hlt)
    obtain ⟨r, hr, hc⟩ := szY_one xs[i] g0 g1 a h0 h1
    have e2 := wnS i (by omega)
    rcases hc with rfl | ⟨q0, q1, q2, q3⟩
    · refine ⟨-1, Ev.step (fun k => ?_) (Ev.now _), .inl rfl⟩
      rw [laws_szSynonymS.l0, if_pos (by omega), if_pos (by omega), rd45 xs i hlt, hr]; rfl
    · obtain ⟨r2, h2, h3⟩ := ih (i + 1) r (by omega) q0 q1
      refine ⟨r2, Ev.step (fun k => ?_) h2, ?_⟩
      · rw [laws_szSynonymS.l0, if_pos (by omega), if_pos (by omega), rd45 xs i hlt, hr, Option.bind_some, if_neg (by omega), e2]
      · rcases h3 with h3 | ⟨h3, h4⟩
        · exact .inl h3
        · refine .inr ⟨h3, fun j hj hij => ?_⟩
          by_cases e : j = i
          · subst e; exact ⟨q2, q3⟩
          · exact h4 j hj (by omega)
theorem szY_eq (xs : List S45) (hm : xs.length ≤ 9223372036854775807) (hx : ∀ y ∈ xs, y.f0.size ≤ 9223372036854775807 ∧ y.f1.size ≤ 9223372036854775807) (a : Int) (a0 : 0 ≤ a) (a1 : a ≤ 1048576) :
    ∃ r, Ev (fun k => laws_szSynonymS.f k xs a) r ∧ (r = -1 ∨ (0 ≤ r ∧ xs.length ≤ 1048576 ∧ ∀ y ∈ xs, y.f0.size ≤ 1048576 ∧ y.f1.size ≤ 1048576)) := by
  have e : Aside0 (wrap64 (a - (xs.length : Int)) = a - (xs.length : Int)) := ⟨w64 (by omega) (by omega)⟩
  unfold laws_szSynonymS.f
  rw [e.out]
  by_cases c : a - (xs.length : Int) < 0
  · exact ⟨-1, Ev.pos c (Ev.now _), .inl rfl⟩
  · obtain ⟨r, hr, hc⟩ := szY_loop xs (by omega) hx xs.length 0 (a - (xs.length : Int)) (by omega) (by omega) (by omega)
    rw [n0] at hr
    refine ⟨r, Ev.neg c hr, ?_⟩
    rcases hc with hc | ⟨h3, h4⟩
    · exact .inl hc
    · refine .inr ⟨h3, by omega, fun y hy => ?_⟩
      obtain ⟨j, hj, rfl⟩ := List.getElem_of_mem hy
      exact h4 j hj (by omega)

/-! ### Copies and equality -/
theorem toS_eq (l : List ByteArray) (h : l.length ≤ 1048576) : Ev (fun k => laws_toStringS.f k l) l := by
  unfold laws_toStringS.f
  refine Ev.pos (by omega) (Ev.pos (by omega) ?_)
  rw [Int.toNat_natCast]
  have := conv_all laws_toStringS.l0 l id (⟨#[]⟩ : ByteArray) (fun i hi ys r hl hr => ?_) (fun ys => ?_)
  · rw [List.map_id] at this; exact this
  · refine Ev.step (fun k => ?_) hr
    rw [laws_toStringS.l0, if_pos (by omega), if_pos (by omega), if_pos (by omega), rdS l i hi, wnS i (by omega), Int.toNat_natCast]; rfl
  · refine Ev.step (fun k => ?_) (Ev.now _)
    rw [laws_toStringS.l0, if_neg (by omega)]
theorem toY_eq (l : List S45) (h : l.length ≤ 1048576) : Ev (fun k => laws_toSynonymS.f k l) (l.map toSyn) := by
  unfold laws_toSynonymS.f
  refine Ev.pos (by omega) (Ev.pos (by omega) ?_)
  rw [Int.toNat_natCast]
  refine conv_all laws_toSynonymS.l0 l toSyn z38 (fun i hi ys r hl hr => ?_) (fun ys => ?_)
  · refine Ev.step (fun k => ?_) hr
    rw [laws_toSynonymS.l0, if_pos (by omega), if_pos (by omega), rd45 l i hi]
    simp only [laws_toSynonym.f, Option.bind_some]
    rw [if_pos (by omega), wnS i (by omega), Int.toNat_natCast]; rfl
  · refine Ev.step (fun k => ?_) (Ev.now _)
    rw [laws_toSynonymS.l0, if_neg (by omega)]
theorem eqY (l : List S38) (h : l.length ≤ 1048576) : Ev (fun k => laws_eqSynonymS.f k l l) true := by
  unfold laws_eqSynonymS.f
  refine Ev.pos rfl (same_all laws_eqSynonymS.l0 l (fun i hi hr => ?_) ?_)
  · refine Ev.step (fun k => ?_) hr
    rw [laws_eqSynonymS.l0, if_pos (by omega), if_pos (by omega), if_pos (by omega), rd38 l i hi, wnS i (by omega)]
    simp [laws_eqSynonym.f]
  · refine Ev.step (fun k => ?_) (Ev.now _)
    rw [laws_eqSynonymS.l0, if_neg (by omega)]

/-! ### The analyzer's own look -/
def wordB (t : ByteArray) : Bool := if (t.size : Int) ≥ 1 then (if (t.size : Int) ≤ 64 then Lib.validD t.data.toList else false) else false
theorem spec_word (t : ByteArray) (h : t.size ≤ 1048576) : Ev (fun k => spec_l02TermOK.f k t) (wordB t) := by
  unfold spec_l02TermOK.f wordB
  have hd := l01Decode_eq t h
  refine Ev.bind hd ?_
  by_cases c1 : (t.size : Int) ≥ 1
  · rw [if_pos c1, if_pos c1]
    by_cases c2 : (t.size : Int) ≤ 64
    · rw [if_pos c2, if_pos c2]
      by_cases v : Lib.validD t.data.toList = true
      · rw [if_pos v, v]; exact Ev.now _
      · rw [if_neg v, show Lib.validD t.data.toList = false by simpa using v]; exact Ev.now _
    · rw [if_neg c2, if_neg c2]; exact Ev.now _
  · rw [if_neg c1, if_neg c1]; exact Ev.now _
theorem impl_word (t : ByteArray) (h : t.size ≤ 1048576) : impl_wordOK.f t = some (wordB t) := by
  unfold impl_wordOK.f wordB utf8_ValidString.f
  by_cases c1 : (t.size : Int) ≥ 1
  · rw [if_pos c1, if_pos c1]
    by_cases c2 : (t.size : Int) ≤ 64
    · rw [if_pos c2, if_pos c2, if_pos (by omega), Option.bind_some]
    · rw [if_neg c2, if_neg c2]
  · rw [if_neg c1, if_neg c1]
def gramB (lo hi : Int) : Bool := decide (1 ≤ lo ∧ lo ≤ hi ∧ hi ≤ 8)
theorem spec_gram (lo hi : Int) : (if lo ≥ 1 then (if lo ≤ hi then (some (decide (hi ≤ 8))) else (some false)) else (some false)) = some (gramB lo hi) := by
  unfold gramB
  (repeat' split) <;> (congr 1; rw [Bool.eq_iff_iff]; simp; try omega)
theorem impl_gram (lo hi : Int) : impl_gramBounds.f lo hi = some (gramB lo hi) := by
  unfold impl_gramBounds.f; exact spec_gram lo hi
theorem loopY (b0 b1 b2 : Bool) (ss : List ByteArray) (ys : List S38) (lo hi : Int) (hl : ys.length ≤ 1048576) (hx : ∀ y ∈ ys, y.f0.size ≤ 1048576 ∧ y.f1.size ≤ 1048576) (d : Nat) : ∀ i : Nat, i + d = ys.length →
    ∃ r, Ev (fun k => spec_AnalyzerOK.l1 k (i : Int) b0 b1 b2 ss ys lo hi) r ∧ Ev (fun k => impl_AnalyzerOK.l1 k ys (ys.length : Int) (i : Int) b0 b1 b2 ss ys lo hi) r := by
  induction d with
  | zero =>
    intro i h
    by_cases c0 : lo = 0
    · by_cases c1 : hi = 0
      · refine ⟨true, Ev.step (fun k => ?_) (Ev.now _), Ev.step (fun k => ?_) (Ev.now _)⟩
        · rw [spec_AnalyzerOK.l1, if_neg (by omega), if_pos c0, if_pos c1]
        · rw [impl_AnalyzerOK.l1, if_neg (by omega), if_pos c0, if_pos c1]
      · refine ⟨gramB lo hi, Ev.step (fun k => ?_) (Ev.now _), Ev.step (fun k => ?_) (Ev.now _)⟩
        · rw [spec_AnalyzerOK.l1, if_neg (by omega), if_pos c0, if_neg c1, spec_gram]
        · rw [impl_AnalyzerOK.l1, if_neg (by omega), if_pos c0, if_neg c1, impl_gram, Option.bind_some]
    · refine ⟨gramB lo hi, Ev.step (fun k => ?_) (Ev.now _), Ev.step (fun k => ?_) (Ev.now _)⟩
      · rw [spec_AnalyzerOK.l1, if_neg (by omega), if_neg c0, spec_gram]
      · rw [impl_AnalyzerOK.l1, if_neg (by omega), if_neg c0, impl_gram, Option.bind_some]
  | succ d ih =>
    intro i h
    have hlt : i < ys.length := by omega
    obtain ⟨g0, g1⟩ := hx _ (List.getElem_mem hlt)
    have so : ∀ r, Ev (fun k => (spec_l02TermOK.f k ys[i].f0).bind fun t143 => (if t143 = true then ((spec_l02TermOK.f k ys[i].f1).bind fun t145 => (if t145 = true then (if ys[i].f0.toList = ys[i].f1.toList then (some false) else (spec_AnalyzerOK.l1 k ((i + 1 : Nat) : Int) b0 b1 b2 ss ys lo hi)) else (some false))) else (some false))) r → Ev (fun k => spec_AnalyzerOK.l1 k (i : Int) b0 b1 b2 ss ys lo hi) r := by
      intro r hr
      refine Ev.step (fun k => ?_) hr
      rw [spec_AnalyzerOK.l1, if_pos (by omega), if_pos (by omega), rd38 ys i hlt, wnS i (by omega)]
    have io : ∀ r, Ev (fun k => if wordB ys[i].f0 = true then (if wordB ys[i].f1 = true then (if ys[i].f0.toList = ys[i].f1.toList then (some false) else (impl_AnalyzerOK.l1 k ys (ys.length : Int) ((i + 1 : Nat) : Int) b0 b1 b2 ss ys lo hi)) else (some false)) else (some false)) r → Ev (fun k => impl_AnalyzerOK.l1 k ys (ys.length : Int) (i : Int) b0 b1 b2 ss ys lo hi) r := by
      intro r hr
      refine Ev.step (fun k => ?_) hr
      rw [impl_AnalyzerOK.l1, if_pos (by omega), if_pos (by omega), if_pos (by omega), rd38 ys i hlt, wnS i (by omega), impl_word _ g0, impl_word _ g1]
      rfl
    have w0 := spec_word _ g0
    have w1 := spec_word _ g1
    by_cases c0 : wordB ys[i].f0 = true
    · by_cases c1 : wordB ys[i].f1 = true
      · by_cases c2 : ys[i].f0.toList = ys[i].f1.toList
        · exact ⟨false, so _ (Ev.bind w0 (Ev.pos c0 (Ev.bind w1 (Ev.pos c1 (Ev.pos c2 (Ev.now _)))))), io _ (Ev.pos c0 (Ev.pos c1 (Ev.pos c2 (Ev.now _))))⟩
        · obtain ⟨r, h1, h2⟩ := ih (i + 1) (by omega)
          exact ⟨r, so _ (Ev.bind w0 (Ev.pos c0 (Ev.bind w1 (Ev.pos c1 (Ev.neg c2 h1))))), io _ (Ev.pos c0 (Ev.pos c1 (Ev.neg c2 h2)))⟩
      · exact ⟨false, so _ (Ev.bind w0 (Ev.pos c0 (Ev.bind w1 (Ev.neg c1 (Ev.now _))))), io _ (Ev.pos c0 (Ev.neg c1 (Ev.now _)))⟩
    · exact ⟨false, so _ (Ev.bind w0 (Ev.neg c0 (Ev.now _))), io _ (Ev.neg c0 (Ev.now _))⟩
theorem loopS (b0 b1 b2 : Bool) (ss : List ByteArray) (ys : List S38) (lo hi : Int) (hs : ss.length ≤ 1048576) (hsx : ∀ y ∈ ss, y.size ≤ 1048576) (hl : ys.length ≤ 1048576) (hx : ∀ y ∈ ys, y.f0.size ≤ 1048576 ∧ y.f1.size ≤ 1048576) (d : Nat) : ∀ i : Nat, i + d = ss.length →
    ∃ r, Ev (fun k => spec_AnalyzerOK.l0 k (i : Int) b0 b1 b2 ss ys lo hi) r ∧ Ev (fun k => impl_AnalyzerOK.l0 k ss (ss.length : Int) (i : Int) b0 b1 b2 ss ys lo hi) r := by
  induction d with
  | zero =>
    intro i h
    obtain ⟨r, h1, h2⟩ := loopY b0 b1 b2 ss ys lo hi hl hx ys.length 0 (by omega)
    refine ⟨r, Ev.step (fun k => ?_) h1, Ev.step (fun k => ?_) h2⟩
    · rw [spec_AnalyzerOK.l0, if_neg (by omega)]; rfl
    · rw [impl_AnalyzerOK.l0, if_neg (by omega)]; rfl
  | succ d ih =>
    intro i h
    have hlt : i < ss.length := by omega
    have g0 := hsx _ (List.getElem_mem hlt)
    have so : ∀ r, Ev (fun k => (spec_l02TermOK.f k ss[i]).bind fun t141 => (if t141 = true then (spec_AnalyzerOK.l0 k ((i + 1 : Nat) : Int) b0 b1 b2 ss ys lo hi) else (some false))) r → Ev (fun k => spec_AnalyzerOK.l0 k (i : Int) b0 b1 b2 ss ys lo hi) r := by
      intro r hr
      refine Ev.step (fun k => ?_) hr
      rw [spec_AnalyzerOK.l0, if_pos (by omega), if_pos (by omega), rdS ss i hlt, wnS i (by omega)]
    have io : ∀ r, Ev (fun k => if wordB ss[i] = true then (impl_AnalyzerOK.l0 k ss (ss.length : Int) ((i + 1 : Nat) : Int) b0 b1 b2 ss ys lo hi) else (some false)) r → Ev (fun k => impl_AnalyzerOK.l0 k ss (ss.length : Int) (i : Int) b0 b1 b2 ss ys lo hi) r := by
      intro r hr
      refine Ev.step (fun k => ?_) hr
      rw [impl_AnalyzerOK.l0, if_pos (by omega), if_pos (by omega), if_pos (by omega), rdS ss i hlt, wnS i (by omega), impl_word _ g0]
      rfl
    have w0 := spec_word _ g0
    by_cases c0 : wordB ss[i] = true
    · obtain ⟨r, h1, h2⟩ := ih (i + 1) (by omega)
      exact ⟨r, so _ (Ev.bind w0 (Ev.pos c0 h1)), io _ (Ev.pos c0 h2)⟩
    · exact ⟨false, so _ (Ev.bind w0 (Ev.neg c0 (Ev.now _))), io _ (Ev.neg c0 (Ev.now _))⟩
theorem ok_both (b0 b1 b2 : Bool) (ss : List ByteArray) (ys : List S38) (lo hi : Int) (hs : ss.length ≤ 1048576) (hsx : ∀ y ∈ ss, y.size ≤ 1048576) (hl : ys.length ≤ 1048576) (hx : ∀ y ∈ ys, y.f0.size ≤ 1048576 ∧ y.f1.size ≤ 1048576) :
    ∃ r, Ev (fun k => spec_AnalyzerOK.f k b0 b1 b2 ss ys lo hi) r ∧ Ev (fun k => impl_AnalyzerOK.f k b0 b1 b2 ss ys lo hi) r := by
  unfold spec_AnalyzerOK.f impl_AnalyzerOK.f
  have bad : ∀ b, b = true → Ev (fun k => spec_AnalyzerOK.j0 k b b0 b1 b2 ss ys lo hi) false ∧ Ev (fun k => impl_AnalyzerOK.j0 k b b0 b1 b2 ss ys lo hi) false := by
    intro b hb
    refine ⟨Ev.step (fun k => ?_) (Ev.now _), Ev.step (fun k => ?_) (Ev.now _)⟩
    · rw [spec_AnalyzerOK.j0, if_pos hb]
    · rw [impl_AnalyzerOK.j0, if_pos hb]
  by_cases c : (ss.length : Int) > 64
  · exact ⟨false, Ev.pos c (bad true rfl).1, Ev.pos c (bad true rfl).2⟩
  · by_cases c2 : (ys.length : Int) > 64
    · exact ⟨false, Ev.neg c (bad _ (decide_eq_true c2)).1, Ev.neg c (bad _ (decide_eq_true c2)).2⟩
    · obtain ⟨r, h1, h2⟩ := loopS b0 b1 b2 ss ys lo hi hs hsx hl hx ss.length 0 (by omega)
      refine ⟨r, Ev.neg c (Ev.step (fun k => ?_) h1), Ev.neg c (Ev.step (fun k => ?_) h2)⟩
      · rw [spec_AnalyzerOK.j0, decide_eq_false c2, if_neg (by decide)]; rfl
      · rw [impl_AnalyzerOK.j0, decide_eq_false c2, if_neg (by decide)]; rfl
theorem FnExactAnalyzerOK (b0 b1 b2 : Bool) (ss : List ByteArray) (ys : List S45) (lo hi : Int) (hw : WfFnExactAnalyzerOK.wfp0 (b0, b1, b2, ss, ys, lo, hi)) : ∃ k, laws_FnExactAnalyzerOK.f k b0 b1 b2 ss ys lo hi = some true := by
  obtain ⟨_, _, _, ⟨s0, s1⟩, ⟨y0, y1⟩, _, _⟩ := hw
  unfold maxLen at s0 s1 y0
  have y1' : ∀ y ∈ ys, y.f0.size ≤ 9223372036854775807 ∧ y.f1.size ≤ 9223372036854775807 := fun y hy => y1 y hy
  refine Ev.rounds (g := fun k => laws_FnExactAnalyzerOK.f k b0 b1 b2 ss ys lo hi) ?_
  unfold laws_FnExactAnalyzerOK.f
  obtain ⟨r1, e1, d1⟩ := szS_eq ss s0 s1
  have sz : ∀ r, Ev (fun k => if r1 < 0 then (some (-1)) else ((laws_szSynonymS.f k ys r1).bind fun t107 => (if t107 < 0 then (some (-1)) else (some t107)))) r → Ev (fun k => laws_szAnalyzer.f k b0 b1 b2 ss ys lo hi 1048576) r := by
    intro r hr
    unfold laws_szAnalyzer.f
    exact Ev.bind e1 hr
  rcases d1 with rfl | ⟨q0, q1, q2, q3⟩
  · exact Ev.bind (sz (-1) (Ev.pos (by decide) (Ev.now _))) (Ev.pos (by decide) (Ev.now _))
  · obtain ⟨r2, e2, d2⟩ := szY_eq ys y0 y1' r1 q0 q1
    rcases d2 with rfl | ⟨p0, p1, p2⟩
    · exact Ev.bind (sz (-1) (Ev.neg (by omega) (Ev.bind e2 (Ev.pos (by decide) (Ev.now _))))) (Ev.pos (by decide) (Ev.now _))
    · refine Ev.bind (sz r2 (Ev.neg (by omega) (Ev.bind e2 (Ev.neg (by omega) (Ev.now _))))) (Ev.neg (by omega) ?_)
      have hto : Ev (fun k => laws_toAnalyzer.f k b0 b1 b2 ss ys lo hi) (b0, b1, b2, ss, ys.map toSyn, lo, hi) := by
        unfold laws_toAnalyzer.f
        exact Ev.bind (toS_eq ss q2) (Ev.bind (toY_eq ys p1) (Ev.now _))
      have hl : (ys.map toSyn).length ≤ 1048576 := by simpa using p1
      have hx : ∀ y ∈ ys.map toSyn, y.f0.size ≤ 1048576 ∧ y.f1.size ≤ 1048576 := by
        intro y hy
        obtain ⟨z, hz, rfl⟩ := List.mem_map.1 hy
        exact p2 z hz
      obtain ⟨r, h1, h2⟩ := ok_both b0 b1 b2 ss (ys.map toSyn) lo hi q2 q3 hl hx
      refine Ev.bind hto ?_
      refine Ev.bind h1 ?_
      refine Ev.bind hto ?_
      refine Ev.bind h2 ?_
      refine Ev.neg (by simp) ?_
      refine Ev.bind hto ?_
      have heq : Ev (fun k => laws_eqAnalyzer.f k b0 b1 b2 ss (ys.map toSyn) lo hi b0 b1 b2 ss (ys.map toSyn) lo hi) true := by
        unfold laws_eqAnalyzer.f
        refine Ev.neg (by simp) (Ev.neg (by simp) (Ev.neg (by simp) ?_))
        exact Ev.bind (eqSE ss (by omega)) (Ev.pos rfl (Ev.bind (eqY _ hl) (Ev.pos rfl (Ev.pos rfl (Ev.pos rfl (Ev.now _))))))
      refine Ev.bind heq ?_
      exact Ev.pos rfl (Ev.now _)

end Go.Proofs.YtfkejcakklpecaaDoor.Pure
