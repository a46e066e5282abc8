/- Whatever the pattern and the text, the program's LikeText tells what the reference's LikeText tells: the law answers true. No condition. -/
import Derived.Test.YtcokeankiedfcaaDoorXFnExactLikeTextx6
import Derived.Test.YtcokeankiedfcaaDoorKit
import Derived.Lib.ItoaNum
import Derived.Lib.Bytes
import Derived.Test.YtcokeankiedfcaaDoorWfFnExactLikeText
set_option linter.unusedSimpArgs false
set_option linter.unusedVariables false
namespace Go.Proofs.YtcokeankiedfcaaDoor.Pure
open Go.RowKit Go.Proofs.YtcokeankiedfcaaDoor.XFnExactLikeText Go.Proofs.YtcokeankiedfcaaDoorW.PrintWords Go.Proofs.YtcokeankiedfcaaDoorW.PrintLast Go.Proofs.YtcokeankiedfcaaDoorW.PrintMore Go.Proofs.YtcokeankiedfcaaDoor.Kit

theorem Ev.steps {α : Type} {g f : Nat → Option α} {r : α} (c : Nat) (h : ∀ k, g (k + c) = f k) (k : Ev f r) : Ev g r := by
  obtain ⟨K, hK⟩ := k
  refine ⟨K + c, fun n hn => ?_⟩
  have := h (n - c)
  rw [Nat.sub_add_cancel (by omega)] at this
  rw [this]; exact hK _ (by omega)

theorem Ev.pos {α : Type} {c : Prop} [Decidable c] {f g : Nat → Option α} {r : α} (h : c) (k : Ev f r) : Ev (fun n => if c then f n else g n) r := Ev.congr (fun n => if_pos h) k
theorem Ev.neg {α : Type} {c : Prop} [Decidable c] {f g : Nat → Option α} {r : α} (h : ¬ c) (k : Ev g r) : Ev (fun n => if c then f n else g n) r := Ev.congr (fun n => if_neg h) k
theorem Ev.ofEq {α : Type} {x : Option α} {r : α} (h : x = some r) : Ev (fun _ => x) r := ⟨0, fun _ _ => h⟩
theorem Ev.from {α : Type} {g : Nat → Option α} {r : α} (K : Nat) (h : ∀ k, K < k → g k = some r) : Ev g r := ⟨K + 1, fun k hk => h k (by omega)⟩

def eb (a : Int) : List Int := if a < 128 then [a] else if a < 2048 then [192 + a / 64, 128 + a % 64] else if a < 65536 then [224 + a / 4096, 128 + a / 64 % 64, 128 + a % 64] else [240 + a / 262144, 128 + a / 4096 % 64, 128 + a / 64 % 64, 128 + a % 64]
def chOK (a : Int) : Bool := decide (0 ≤ a ∧ a ≤ 1114111 ∧ (a < 55296 ∨ 57343 < a))

theorem chOK_iff (a : Int) : chOK a = true ↔ 0 ≤ a ∧ a ≤ 1114111 ∧ (a < 55296 ∨ 57343 < a) := by simp [chOK]

theorem eb_length (a : Int) : 1 ≤ (eb a).length ∧ (eb a).length ≤ 4 := by
  unfold eb; (repeat' split) <;> simp

theorem charOK_eq (a : Int) : spec_l01CharOK.f a = some (chOK a) := by
  unfold spec_l01CharOK.f chOK
  (repeat' split) <;> (congr 1; rw [Bool.eq_iff_iff]; simp; try omega)

theorem bytes_eq (a : Int) (h : chOK a = true) : spec_l01Bytes.f a = some (eb a) := by
  obtain ⟨h0, h1, _⟩ := (chOK_iff a).1 h
  unfold spec_l01Bytes.f eb
  simp only [Int.tdiv_eq_ediv_of_nonneg h0, Int.tmod_eq_emod_of_nonneg h0]
  have d1 : wrap64 (a / 64) = a / 64 := w64 (by omega) (by omega)
  have d2 : wrap64 (a / 4096) = a / 4096 := w64 (by omega) (by omega)
  have d3 : wrap64 (a / 262144) = a / 262144 := w64 (by omega) (by omega)
  rw [d1, d2, d3]
  have m1 : Int.tmod (a / 64) 64 = a / 64 % 64 := Int.tmod_eq_emod_of_nonneg (by omega)
  have m2 : Int.tmod (a / 4096) 64 = a / 4096 % 64 := Int.tmod_eq_emod_of_nonneg (by omega)
  rw [m1, m2]
  have b0 : wrap64 (128 + a % 64) % 256 = 128 + a % 64 := by rw [w64 (by omega) (by omega)]; omega
  have b1 : wrap64 (128 + a / 64 % 64) % 256 = 128 + a / 64 % 64 := by rw [w64 (by omega) (by omega)]; omega
  have b2 : wrap64 (128 + a / 4096 % 64) % 256 = 128 + a / 4096 % 64 := by rw [w64 (by omega) (by omega)]; omega
  rw [b0, b1, b2]
  by_cases c1 : a < 128
  · rw [if_pos c1, if_pos c1, Int.emod_eq_of_lt h0 (by omega)]
  · rw [if_neg c1, if_neg c1]
    by_cases c2 : a < 2048
    · rw [if_pos c2, if_pos c2, w64 (x := 192 + a / 64) (by omega) (by omega), Int.emod_eq_of_lt (a := 192 + a / 64) (by omega) (by omega)]
    · rw [if_neg c2, if_neg c2]
      by_cases c3 : a < 65536
      · rw [if_pos c3, if_pos c3, w64 (x := 224 + a / 4096) (by omega) (by omega), Int.emod_eq_of_lt (a := 224 + a / 4096) (by omega) (by omega)]
      · rw [if_neg c3, if_neg c3, w64 (x := 240 + a / 262144) (by omega) (by omega), Int.emod_eq_of_lt (a := 240 + a / 262144) (by omega) (by omega)]


/-! ### Decoding -/
theorem bt_get (s : ByteArray) (i : Nat) : bt s (i : Int) = ((s.get! i).toNat : Int) := by
  have h := Lib.getD_get!' s i
  unfold bt
  rw [Int.toNat_natCast]
  by_cases c : i < s.size
  · rw [dif_pos c, ← h, List.getD_eq_getElem?_getD, List.getElem?_eq_getElem (by rw [data_length]; exact c)]; rfl
  · rw [dif_neg c, ← h, List.getD_eq_getElem?_getD, List.getElem?_eq_none (by rw [data_length]; omega)]; rfl

/-- What the reference's look at a place tells, out of the decoder's step. -/
def stepR (d : Nat × Nat) : Int × Int := if d.1 = 65533 ∧ d.2 = 1 then (0, 0) else ((d.1 : Int), (d.2 : Int))
def finR (v n : Int) : Int × Int := if chOK v = true ∧ ((eb v).length : Int) = n then (v, n) else (0, 0)

theorem l0_end (s : ByteArray) (pos n v : Int) (k : Nat) : spec_l01At.l0 (k + 1) s pos n v n = some (finR v n) := by
  rw [spec_l01At.l0, if_neg (by omega), charOK_eq, Option.bind_some, finR]
  by_cases c : chOK v = true
  · rw [if_pos c, bytes_eq v c, Option.bind_some]
    by_cases c2 : ((eb v).length : Int) = n
    · rw [if_pos c2, if_pos ⟨c, c2⟩]
    · rw [if_neg c2, if_neg (fun h => c2 h.2)]
  · rw [if_neg c, if_neg (fun h => c h.1)]

theorem l0_step (s : ByteArray) (pos i n : Nat) (v : Int) (k : Nat) (hs : s.size ≤ 1048576) (hi : i < n) (hin : pos + i < s.size) (h0 : 0 ≤ v) (h1 : v ≤ 100000000) (b : Nat) (hb : (s.get! (pos + i)).toNat = b) :
    spec_l01At.l0 (k + 1) s (pos : Int) (n : Int) v (i : Int) = if b / 64 = 2 then spec_l01At.l0 k s (pos : Int) (n : Int) (v * 64 + ((b % 64 : Nat) : Int)) ((i + 1 : Nat) : Int) else some (0, 0) := by
  have hlt : b < 256 := by rw [← hb]; exact UInt8.toNat_lt _
  have e1 : Aside0 (wrap64 ((pos : Int) + (i : Int)) = ((pos + i : Nat) : Int)) := ⟨by rw [w64 (by omega) (by omega)]; omega⟩
  have e2 : Aside0 (wrap64 ((i : Int) + 1) = ((i + 1 : Nat) : Int)) := ⟨by rw [w64 (by omega) (by omega)]; omega⟩
  have e3 : Aside0 (wrap64 (b : Int) = (b : Int)) := ⟨w64 (by omega) (by omega)⟩
  rw [spec_l01At.l0, if_pos (by omega), e1.out, if_pos (by omega), if_pos (by omega), bt_get, hb, e3.out, e2.out]
  by_cases c1 : (b : Int) < 128
  · rw [if_pos c1, if_neg (by omega)]
  · rw [if_neg c1]
    by_cases c2 : (b : Int) > 191
    · rw [if_pos c2, if_neg (by omega)]
    · have e4 : wrap64 (wrap64 (wrap64 (v * 64) + (b : Int)) - 128) = v * 64 + ((b % 64 : Nat) : Int) := by
        rw [w64 (x := v * 64) (by omega) (by omega), w64 (x := v * 64 + (b : Int)) (by omega) (by omega), w64 (by omega) (by omega)]; omega
      rw [if_neg c2, if_pos (by omega), e4]

theorem at2 (s : ByteArray) (pos : Nat) (v : Int) (hs : s.size ≤ 1048576) (hp : pos < s.size) (h0 : 0 ≤ v) (h1 : v ≤ 1000) (b1 : Nat) (hb1 : (s.get! (pos + 1)).toNat = b1) :
    Ev (fun k => spec_l01At.j0 k s (pos : Int) 2 v) (if 1 < s.size - pos ∧ b1 / 64 = 2 then finR (v * 64 + ((b1 % 64 : Nat) : Int)) 2 else (0, 0)) := by
  have e1 : Aside0 (wrap64 ((pos : Int) + 2) = ((pos + 2 : Nat) : Int)) := ⟨by rw [w64 (by omega) (by omega)]; omega⟩
  by_cases c : 1 < s.size - pos
  · have hst := fun k => l0_step s pos 1 2 v k hs (by omega) (by omega) h0 (by omega) b1 hb1
    by_cases d : b1 / 64 = 2
    · rw [if_pos ⟨c, d⟩]
      refine Ev.steps 3 (fun k => ?_) (Ev.now _)
      have h := hst (k + 1)
      rw [if_pos d] at h
      rw [spec_l01At.j0, e1.out, if_neg (by omega)]
      exact h.trans (l0_end s _ _ _ _)
    · rw [if_neg (fun h => d h.2)]
      refine Ev.steps 2 (fun k => ?_) (Ev.now _)
      have h := hst k
      rw [if_neg d] at h
      rw [spec_l01At.j0, e1.out, if_neg (by omega)]
      exact h
  · rw [if_neg (fun h => c h.1)]
    refine Ev.step (fun k => ?_) (Ev.now _)
    rw [spec_l01At.j0, e1.out, if_pos (by omega)]

theorem at3 (s : ByteArray) (pos : Nat) (v : Int) (hs : s.size ≤ 1048576) (hp : pos < s.size) (h0 : 0 ≤ v) (h1 : v ≤ 1000) (b1 b2 : Nat) (hb1 : (s.get! (pos + 1)).toNat = b1) (hb2 : (s.get! (pos + 2)).toNat = b2) :
    Ev (fun k => spec_l01At.j0 k s (pos : Int) 3 v) (if 2 < s.size - pos ∧ b1 / 64 = 2 ∧ b2 / 64 = 2 then finR ((v * 64 + ((b1 % 64 : Nat) : Int)) * 64 + ((b2 % 64 : Nat) : Int)) 3 else (0, 0)) := by
  have e1 : Aside0 (wrap64 ((pos : Int) + 3) = ((pos + 3 : Nat) : Int)) := ⟨by rw [w64 (by omega) (by omega)]; omega⟩
  by_cases c : 2 < s.size - pos
  · have hst := fun k => l0_step s pos 1 3 v k hs (by omega) (by omega) h0 (by omega) b1 hb1
    by_cases d : b1 / 64 = 2
    · have hst2 := fun k => l0_step s pos 2 3 (v * 64 + ((b1 % 64 : Nat) : Int)) k hs (by omega) (by omega) (by omega) (by omega) b2 hb2
      by_cases d2 : b2 / 64 = 2
      · rw [if_pos ⟨c, d, d2⟩]
        refine Ev.steps 4 (fun k => ?_) (Ev.now _)
        have h := hst (k + 2)
        rw [if_pos d] at h
        have h2 := hst2 (k + 1)
        rw [if_pos d2] at h2
        rw [spec_l01At.j0, e1.out, if_neg (by omega)]
        exact h.trans (h2.trans (l0_end s _ _ _ _))
      · rw [if_neg (fun h => d2 h.2.2)]
        refine Ev.steps 3 (fun k => ?_) (Ev.now _)
        have h := hst (k + 1)
        rw [if_pos d] at h
        have h2 := hst2 k
        rw [if_neg d2] at h2
        rw [spec_l01At.j0, e1.out, if_neg (by omega)]
        exact h.trans h2
    · rw [if_neg (fun h => d h.2.1)]
      refine Ev.steps 2 (fun k => ?_) (Ev.now _)
      have h := hst k
      rw [if_neg d] at h
      rw [spec_l01At.j0, e1.out, if_neg (by omega)]
      exact h
  · rw [if_neg (fun h => c h.1)]
    refine Ev.step (fun k => ?_) (Ev.now _)
    rw [spec_l01At.j0, e1.out, if_pos (by omega)]

theorem at4 (s : ByteArray) (pos : Nat) (v : Int) (hs : s.size ≤ 1048576) (hp : pos < s.size) (h0 : 0 ≤ v) (h1 : v ≤ 1000) (b1 b2 b3 : Nat) (hb1 : (s.get! (pos + 1)).toNat = b1) (hb2 : (s.get! (pos + 2)).toNat = b2) (hb3 : (s.get! (pos + 3)).toNat = b3) :
    Ev (fun k => spec_l01At.j0 k s (pos : Int) 4 v) (if 3 < s.size - pos ∧ b1 / 64 = 2 ∧ b2 / 64 = 2 ∧ b3 / 64 = 2 then finR (((v * 64 + ((b1 % 64 : Nat) : Int)) * 64 + ((b2 % 64 : Nat) : Int)) * 64 + ((b3 % 64 : Nat) : Int)) 4 else (0, 0)) := by
  have e1 : Aside0 (wrap64 ((pos : Int) + 4) = ((pos + 4 : Nat) : Int)) := ⟨by rw [w64 (by omega) (by omega)]; omega⟩
  by_cases c : 3 < s.size - pos
  · have hst := fun k => l0_step s pos 1 4 v k hs (by omega) (by omega) h0 (by omega) b1 hb1
    by_cases d : b1 / 64 = 2
    · have hst2 := fun k => l0_step s pos 2 4 (v * 64 + ((b1 % 64 : Nat) : Int)) k hs (by omega) (by omega) (by omega) (by omega) b2 hb2
      by_cases d2 : b2 / 64 = 2
      · have hst3 := fun k => l0_step s pos 3 4 ((v * 64 + ((b1 % 64 : Nat) : Int)) * 64 + ((b2 % 64 : Nat) : Int)) k hs (by omega) (by omega) (by omega) (by omega) b3 hb3
        by_cases d3 : b3 / 64 = 2
        · rw [if_pos ⟨c, d, d2, d3⟩]
          refine Ev.steps 5 (fun k => ?_) (Ev.now _)
          have h := hst (k + 3)
          rw [if_pos d] at h
          have h2 := hst2 (k + 2)
          rw [if_pos d2] at h2
          have h3 := hst3 (k + 1)
          rw [if_pos d3] at h3
          rw [spec_l01At.j0, e1.out, if_neg (by omega)]
          exact h.trans (h2.trans (h3.trans (l0_end s _ _ _ _)))
        · rw [if_neg (fun h => d3 h.2.2.2)]
          refine Ev.steps 4 (fun k => ?_) (Ev.now _)
          have h := hst (k + 2)
          rw [if_pos d] at h
          have h2 := hst2 (k + 1)
          rw [if_pos d2] at h2
          have h3 := hst3 k
          rw [if_neg d3] at h3
          rw [spec_l01At.j0, e1.out, if_neg (by omega)]
          exact h.trans (h2.trans h3)
      · rw [if_neg (fun h => d2 h.2.2.1)]
        refine Ev.steps 3 (fun k => ?_) (Ev.now _)
        have h := hst (k + 1)
        rw [if_pos d] at h
        have h2 := hst2 k
        rw [if_neg d2] at h2
        rw [spec_l01At.j0, e1.out, if_neg (by omega)]
        exact h.trans h2
    · rw [if_neg (fun h => d h.2.1)]
      refine Ev.steps 2 (fun k => ?_) (Ev.now _)
      have h := hst k
      rw [if_neg d] at h
      rw [spec_l01At.j0, e1.out, if_neg (by omega)]
      exact h
  · rw [if_neg (fun h => c h.1)]
    refine Ev.step (fun k => ?_) (Ev.now _)
    rw [spec_l01At.j0, e1.out, if_pos (by omega)]

theorem eb_len (v : Int) : ((eb v).length : Int) = if v < 128 then 1 else if v < 2048 then 2 else if v < 65536 then 3 else 4 := by
  unfold eb
  repeat' split
  all_goals simp
theorem finR_ok (v n : Int) (h : chOK v = true) (hl : ((eb v).length : Int) = n) : finR v n = (v, n) := by unfold finR; rw [if_pos ⟨h, hl⟩]
theorem finR_len (v n : Int) (hl : ((eb v).length : Int) ≠ n) : finR v n = (0, 0) := by unfold finR; rw [if_neg (fun h => hl h.2)]
theorem finR_ch (v n : Int) (h : ¬ (chOK v = true)) : finR v n = (0, 0) := by unfold finR; rw [if_neg (fun h' => h h'.1)]
theorem stepR_bad : stepR (65533, 1) = (0, 0) := rfl
theorem stepR_wide (v n : Nat) (h : n ≠ 1) : stepR (v, n) = ((v : Int), (n : Int)) := by unfold stepR; rw [if_neg (fun h' => h h'.2)]

theorem dec1 (m b0 b1 b2 b3 : Nat) (h : b0 < 128) : stepR (Lib.decodeN m b0 b1 b2 b3) = ((b0 : Int), 1) := by
  unfold Lib.decodeN
  rw [if_pos h, stepR, if_neg (by simp only; omega)]; rfl
theorem dec0 (m b0 b1 b2 b3 : Nat) (h : 128 ≤ b0) (h' : b0 < 192) : stepR (Lib.decodeN m b0 b1 b2 b3) = (0, 0) := by
  unfold Lib.decodeN
  rw [if_neg (by omega), if_neg (by omega), if_neg (by omega), if_neg (by omega)]; rfl
theorem dec2 (m b0 b1 b2 b3 : Nat) (h : 192 ≤ b0) (h' : b0 < 224) : stepR (Lib.decodeN m b0 b1 b2 b3) = if 1 < m ∧ b1 / 64 = 2 then finR (((b0 : Int) - 192) * 64 + ((b1 % 64 : Nat) : Int)) 2 else (0, 0) := by
  unfold Lib.decodeN
  rw [if_neg (by omega)]
  by_cases c : 1 < m ∧ b1 / 64 = 2
  · rw [if_pos ⟨by omega, c⟩, if_pos c]
    have e : ((b0 : Int) - 192) * 64 + ((b1 % 64 : Nat) : Int) = ((b0 % 32 * 64 + b1 % 64 : Nat) : Int) := by omega
    rw [e]
    have hv : b0 % 32 * 64 + b1 % 64 < 2048 := by omega
    generalize b0 % 32 * 64 + b1 % 64 = v at *
    by_cases d : v ≥ 128
    · rw [if_pos d, stepR_wide _ _ (by decide), finR_ok _ _ ((chOK_iff _).2 ⟨by omega, by omega, by omega⟩) (by rw [eb_len, if_neg (by omega), if_pos (by omega)])]; rfl
    · rw [if_neg d, stepR_bad, finR_len _ _ (by rw [eb_len, if_pos (by omega)]; decide)]
  · rw [if_neg (fun h => c h.2), if_neg (by omega), if_neg (by omega), if_neg c, stepR_bad]
theorem dec3 (m b0 b1 b2 b3 : Nat) (h : 224 ≤ b0) (h' : b0 < 240) : stepR (Lib.decodeN m b0 b1 b2 b3) = if 2 < m ∧ b1 / 64 = 2 ∧ b2 / 64 = 2 then finR ((((b0 : Int) - 224) * 64 + ((b1 % 64 : Nat) : Int)) * 64 + ((b2 % 64 : Nat) : Int)) 3 else (0, 0) := by
  unfold Lib.decodeN
  rw [if_neg (by omega), if_neg (by omega)]
  by_cases c : 2 < m ∧ b1 / 64 = 2 ∧ b2 / 64 = 2
  · rw [if_pos ⟨by omega, ⟨by omega, c.2.1⟩, c.1, c.2.2⟩, if_pos c]
    have e : (((b0 : Int) - 224) * 64 + ((b1 % 64 : Nat) : Int)) * 64 + ((b2 % 64 : Nat) : Int) = ((b0 % 16 * 4096 + b1 % 64 * 64 + b2 % 64 : Nat) : Int) := by omega
    rw [e]
    have hv : b0 % 16 * 4096 + b1 % 64 * 64 + b2 % 64 < 65536 := by omega
    generalize b0 % 16 * 4096 + b1 % 64 * 64 + b2 % 64 = v at *
    by_cases d : v ≥ 2048
    · by_cases d2 : v < 55296 ∨ 57344 ≤ v ∧ v ≤ 1114111
      · rw [if_pos ⟨d, d2⟩, stepR_wide _ _ (by decide), finR_ok _ _ ((chOK_iff _).2 ⟨by omega, by omega, by omega⟩) (by rw [eb_len, if_neg (by omega), if_neg (by omega), if_pos (by omega)])]; rfl
      · rw [if_neg (fun h => d2 h.2), stepR_bad, finR_ch _ _ (fun h => by have := (chOK_iff _).1 h; omega)]
    · rw [if_neg (fun h => d h.1), stepR_bad, finR_len _ _ (by rw [eb_len]; split <;> (try split) <;> omega)]
  · rw [if_neg (fun h => c ⟨h.2.2.1, h.2.1.2, h.2.2.2⟩), if_neg (by omega), if_neg c, stepR_bad]
theorem dec4 (m b0 b1 b2 b3 : Nat) (h : 240 ≤ b0) (h' : b0 < 256) : stepR (Lib.decodeN m b0 b1 b2 b3) = if 3 < m ∧ b1 / 64 = 2 ∧ b2 / 64 = 2 ∧ b3 / 64 = 2 then finR (((((b0 : Int) - 240) * 64 + ((b1 % 64 : Nat) : Int)) * 64 + ((b2 % 64 : Nat) : Int)) * 64 + ((b3 % 64 : Nat) : Int)) 4 else (0, 0) := by
  unfold Lib.decodeN
  rw [if_neg (by omega), if_neg (by omega), if_neg (by omega)]
  by_cases c : 3 < m ∧ b1 / 64 = 2 ∧ b2 / 64 = 2 ∧ b3 / 64 = 2
  · rw [if_pos c]
    by_cases g : b0 < 248
    · rw [if_pos ⟨by omega, ⟨by omega, c.2.1⟩, ⟨by omega, c.2.2.1⟩, c.1, c.2.2.2⟩]
      have e : ((((b0 : Int) - 240) * 64 + ((b1 % 64 : Nat) : Int)) * 64 + ((b2 % 64 : Nat) : Int)) * 64 + ((b3 % 64 : Nat) : Int) = ((b0 % 8 * 262144 + b1 % 64 * 4096 + b2 % 64 * 64 + b3 % 64 : Nat) : Int) := by omega
      rw [e]
      generalize b0 % 8 * 262144 + b1 % 64 * 4096 + b2 % 64 * 64 + b3 % 64 = v at *
      by_cases d : v ≥ 65536
      · by_cases d2 : v < 55296 ∨ 57344 ≤ v ∧ v ≤ 1114111
        · rw [if_pos ⟨d, d2⟩, stepR_wide _ _ (by decide), finR_ok _ _ ((chOK_iff _).2 ⟨by omega, by omega, by omega⟩) (by rw [eb_len, if_neg (by omega), if_neg (by omega), if_neg (by omega)])]; rfl
        · rw [if_neg (fun h => d2 h.2), stepR_bad, finR_ch _ _ (fun h => by have := (chOK_iff _).1 h; omega)]
      · rw [if_neg (fun h => d h.1), stepR_bad, finR_len _ _ (by rw [eb_len]; split <;> (try split) <;> (try split) <;> omega)]
    · rw [if_neg (by omega), stepR_bad, finR_ch _ _ (fun h => by have := (chOK_iff _).1 h; omega)]
  · rw [if_neg (fun h => c ⟨h.2.2.2.1, h.2.1.2, h.2.2.1.2, h.2.2.2.2⟩), if_neg c, stepR_bad]

theorem at_step (s : ByteArray) (pos : Nat) (hs : s.size ≤ 1048576) (hp : pos < s.size) : Ev (fun k => spec_l01At.f k s (pos : Int)) (stepR (Utf8.decode s pos)) := by
  rw [Lib.decode_at]
  generalize hm : s.size - pos = m
  obtain ⟨b0, hb0⟩ : ∃ b, (s.get! pos).toNat = b := ⟨_, rfl⟩
  obtain ⟨b1, hb1⟩ : ∃ b, (s.get! (pos + 1)).toNat = b := ⟨_, rfl⟩
  obtain ⟨b2, hb2⟩ : ∃ b, (s.get! (pos + 2)).toNat = b := ⟨_, rfl⟩
  obtain ⟨b3, hb3⟩ : ∃ b, (s.get! (pos + 3)).toNat = b := ⟨_, rfl⟩
  have hlt : b0 < 256 := by rw [← hb0]; exact UInt8.toNat_lt _
  rw [hb0, hb1, hb2, hb3]
  have e3 : Aside0 (wrap64 (b0 : Int) = (b0 : Int)) := ⟨w64 (by omega) (by omega)⟩
  unfold spec_l01At.f
  rw [bt_get, hb0, e3.out]
  refine Ev.pos (by omega) (Ev.pos (by omega) ?_)
  by_cases c1 : b0 < 128
  · rw [dec1 m b0 b1 b2 b3 c1]
    exact Ev.pos (by omega) (Ev.now _)
  · refine Ev.neg (by omega) ?_
    by_cases c2 : b0 ≥ 240
    · have e4 : wrap64 ((b0 : Int) - 240) = (b0 : Int) - 240 := w64 (by omega) (by omega)
      rw [dec4 m b0 b1 b2 b3 c2 hlt, e4, ← hm]
      exact Ev.pos (by omega) (at4 s pos _ hs hp (by omega) (by omega) b1 b2 b3 hb1 hb2 hb3)
    · refine Ev.neg (by omega) ?_
      by_cases c3 : b0 ≥ 224
      · have e4 : wrap64 ((b0 : Int) - 224) = (b0 : Int) - 224 := w64 (by omega) (by omega)
        rw [dec3 m b0 b1 b2 b3 c3 (by omega), e4, ← hm]
        exact Ev.pos (by omega) (at3 s pos _ hs hp (by omega) (by omega) b1 b2 hb1 hb2)
      · refine Ev.neg (by omega) ?_
        by_cases c4 : b0 ≥ 192
        · have e4 : wrap64 ((b0 : Int) - 192) = (b0 : Int) - 192 := w64 (by omega) (by omega)
          rw [dec2 m b0 b1 b2 b3 c4 (by omega), e4, ← hm]
          exact Ev.pos (by omega) (at2 s pos _ hs hp (by omega) (by omega) b1 hb1)
        · rw [dec0 m b0 b1 b2 b3 (by omega) (by omega)]
          exact Ev.neg (by omega) (Ev.now _)

/-! ### The whole text -/
def badAt (s : ByteArray) (pos : Nat) : Bool := decide ((Utf8.decode s pos).1 = 65533 ∧ (Utf8.decode s pos).2 = 1)
def validFrom (s : ByteArray) : Nat → Nat → Bool
  | 0, _ => true
  | n + 1, pos => if pos < s.size then (if badAt s pos then false else validFrom s n (pos + (Utf8.decode s pos).2)) else true

theorem decode_len (s : ByteArray) (pos : Nat) : (Utf8.decode s pos).2 ≤ 4 := by
  rw [Lib.decode_at]
  unfold Lib.decodeN
  repeat' split
  all_goals simp

theorem spec_loop (s : ByteArray) (hs : s.size ≤ 1048576) (fuel : Nat) : ∀ (pos : Nat) (acc : List Int), s.size ≤ pos + fuel → acc.length ≤ pos →
    Ev (fun k => spec_l01Decode.l0 k s acc (pos : Int)) (if validFrom s fuel pos then (acc ++ impl_Decode.runes s fuel pos, true) else ([], false)) := by
  induction fuel with
  | zero =>
    intro pos acc h1 h2
    rw [validFrom, if_pos rfl, impl_Decode.runes, List.append_nil]
    refine Ev.step (fun k => ?_) (Ev.now _)
    rw [spec_l01Decode.l0, if_neg (by omega)]
  | succ n ih =>
    intro pos acc h1 h2
    rw [validFrom, impl_Decode.runes]
    by_cases hp : pos < s.size
    · have hat := at_step s pos hs hp
      have hw := Lib.width_pos s pos
      have hw4 := decode_len s pos
      rw [if_pos hp, if_pos hp]
      refine Ev.step (f := fun k => (spec_l01At.f k s (pos : Int)).bind fun bt120 => if bt120.2 = 0 then some ([], false) else if acc.length < 17592186044416 then spec_l01Decode.l0 k s (acc ++ [bt120.1]) (wrap64 ((pos : Int) + bt120.2)) else none) (fun k => by rw [spec_l01Decode.l0, if_pos (by omega)]) (Ev.bind hat ?_)
      by_cases hb : badAt s pos = true
      · rw [if_pos hb]
        have hb' := of_decide_eq_true hb
        have e : stepR (Utf8.decode s pos) = (0, 0) := by unfold stepR; rw [if_pos hb']
        rw [e]
        exact Ev.pos rfl (Ev.now _)
      · rw [if_neg hb]
        have hb' : ¬ ((Utf8.decode s pos).1 = 65533 ∧ (Utf8.decode s pos).2 = 1) := fun h => hb (decide_eq_true h)
        have e : stepR (Utf8.decode s pos) = (((Utf8.decode s pos).1 : Int), ((Utf8.decode s pos).2 : Int)) := by unfold stepR; rw [if_neg hb']
        have e5 : wrap64 ((pos : Int) + ((Utf8.decode s pos).2 : Int)) = ((pos + (Utf8.decode s pos).2 : Nat) : Int) := by rw [w64 (by omega) (by omega)]; omega
        rw [e]
        simp only
        rw [e5]
        refine Ev.neg (by omega) (Ev.pos (by omega) ?_)
        have h' := ih (pos + (Utf8.decode s pos).2) (acc ++ [((Utf8.decode s pos).1 : Int)]) (by omega) (by simp; omega)
        rw [List.append_assoc] at h'
        exact h'
    · rw [if_neg hp, if_pos rfl, if_neg hp, List.append_nil]
      refine Ev.step (fun k => ?_) (Ev.now _)
      rw [spec_l01Decode.l0, if_neg (by omega)]

theorem decode_drop (s : ByteArray) (pos : Nat) : Lib.decodeL (s.data.toList.drop pos) = Utf8.decode s pos := by
  unfold Lib.decodeL
  have hsz : (⟨(s.data.toList.drop pos).toArray⟩ : ByteArray).size = s.size - pos := by
    show (s.data.toList.drop pos).toArray.size = _
    rw [List.size_toArray, List.length_drop, data_length]
  have hg : ∀ j, (⟨(s.data.toList.drop pos).toArray⟩ : ByteArray).get! j = s.get! (pos + j) := by
    intro j
    rw [← Lib.getD_get!', ← Lib.getD_get!']
    show (s.data.toList.drop pos).getD j 0 = _
    rw [List.getD_eq_getElem?_getD, List.getD_eq_getElem?_getD, List.getElem?_drop]
  rw [Lib.decode_at, Lib.decode_at, hsz, hg, hg, hg, hg]; rfl

theorem valid_from (s : ByteArray) (fuel : Nat) : ∀ pos : Nat, s.size ≤ pos + fuel → Lib.validD (s.data.toList.drop pos) = validFrom s fuel pos := by
  induction fuel with
  | zero =>
    intro pos h
    rw [List.drop_of_length_le (by rw [data_length]; omega), validFrom]; rfl
  | succ n ih =>
    intro pos h
    rw [validFrom]
    by_cases hp : pos < s.size
    · have hne : s.data.toList.drop pos ≠ [] := by
        intro e
        have := congrArg List.length e
        rw [List.length_drop, data_length] at this
        simp at this; omega
      have hw := Lib.width_pos s pos
      rw [if_pos hp, Lib.validD_step _ hne, decode_drop, List.drop_drop, ih (pos + (Utf8.decode s pos).2) (by omega)]
      unfold badAt
      by_cases hb : (Utf8.decode s pos).1 = 65533 ∧ (Utf8.decode s pos).2 = 1
      · rw [if_pos hb, decide_eq_true hb]; rfl
      · rw [if_neg hb, decide_eq_false hb]; rfl
    · rw [if_neg hp, List.drop_of_length_le (by rw [data_length]; omega)]; rfl

theorem valid_all (s : ByteArray) : Lib.validD s.data.toList = validFrom s s.size 0 := by
  have := valid_from s s.size 0 (by omega)
  rwa [List.drop_zero] at this

/-- What both tell of a text. -/
def decTell (s : ByteArray) : List Int × Int := if (s.size : Int) > 65536 then ([], 2) else if Lib.validD s.data.toList = true then (impl_Decode.runes s s.size 0, 0) else ([], 3)
theorem impl_Decode_eq (s : ByteArray) : impl_Decode.f s = some (decTell s) := by
  unfold impl_Decode.f decTell
  split
  · rfl
  · split <;> rfl
theorem runes_length (s : ByteArray) (fuel : Nat) : ∀ pos, (impl_Decode.runes s fuel pos).length ≤ fuel := by
  induction fuel with
  | zero => intro pos; simp [impl_Decode.runes]
  | succ n ih =>
    intro pos
    rw [impl_Decode.runes]
    split
    · rw [List.length_cons]; have := ih (pos + (Utf8.decode s pos).2); omega
    · simp
theorem decTell_length (s : ByteArray) : (decTell s).1.length ≤ 65536 := by
  unfold decTell
  split
  · simp
  · split
    · have := runes_length s s.size 0; simp only; omega
    · simp
theorem l01Decode_eq (s : ByteArray) (hs : s.size ≤ 1048576) : Ev (fun k => spec_l01Decode.f k s) (if Lib.validD s.data.toList = true then (impl_Decode.runes s s.size 0, true) else ([], false)) := by
  have h := spec_loop s hs s.size 0 [] (by omega) (by simp)
  rw [List.nil_append] at h
  rw [valid_all]
  exact h
theorem spec_Decode_eq (s : ByteArray) : Ev (fun k => spec_Decode.f k s) (decTell s) := by
  unfold spec_Decode.f decTell
  by_cases hb : (s.size : Int) > 65536
  · rw [if_pos hb]; exact Ev.pos hb (Ev.now _)
  · rw [if_neg hb]
    refine Ev.neg hb (Ev.bind (l01Decode_eq s (by omega)) ?_)
    by_cases hv : Lib.validD s.data.toList = true
    · rw [if_pos hv, if_pos hv]; exact Ev.pos rfl (Ev.now _)
    · rw [if_neg hv, if_neg hv]; exact Ev.neg Bool.false_ne_true (Ev.now _)

def sw (x : Int) : Int := if x = -2 then -1 else if x = -1 then -2 else x
theorem sw_id (x : Int) (h : 0 ≤ x) : sw x = x := by unfold sw; rw [if_neg (by omega), if_neg (by omega)]
theorem wn (i : Nat) (h : i ≤ 1000000) : wrap64 ((i : Int) + 1) = ((i + 1 : Nat) : Int) := by rw [w64 (by omega) (by omega)]; omega
theorem getD_pos (xs : List Int) (h : ∀ x, x ∈ xs → 0 ≤ x) (i : Nat) : 0 ≤ xs.getD i 0 := by
  rw [List.getD_eq_getElem?_getD]
  by_cases c : i < xs.length
  · rw [List.getElem?_eq_getElem c]; exact h _ (List.getElem_mem c)
  · rw [List.getElem?_eq_none (by omega)]; exact Int.le_refl _
theorem getD_low (xs : List Int) (h : ∀ x, x ∈ xs → -2 ≤ x) (i : Nat) : -2 ≤ xs.getD i 0 := by
  rw [List.getD_eq_getElem?_getD]
  by_cases c : i < xs.length
  · rw [List.getElem?_eq_getElem c]; exact h _ (List.getElem_mem c)
  · rw [List.getElem?_eq_none (by omega)]; decide
theorem getD_sw (xs : List Int) (i : Nat) : (xs.map sw).getD i 0 = sw (xs.getD i 0) := by
  rw [List.getD_eq_getElem?_getD, List.getD_eq_getElem?_getD, List.getElem?_map]
  cases xs[i]? <;> rfl
theorem runes_pos (s : ByteArray) (fuel : Nat) : ∀ pos x, x ∈ impl_Decode.runes s fuel pos → 0 ≤ x := by
  induction fuel with
  | zero => intro pos x h; simp [impl_Decode.runes] at h
  | succ n ih =>
    intro pos x h
    rw [impl_Decode.runes] at h
    split at h
    · rcases List.mem_cons.1 h with rfl | h
      · omega
      · exact ih _ x h
    · simp at h
theorem decTell_pos (s : ByteArray) : ∀ x, x ∈ (decTell s).1 → 0 ≤ x := by
  unfold decTell
  split
  · simp
  · split
    · exact runes_pos s _ _
    · simp

/-! ### The pattern's items -/
theorem parts_from (xs : List Int) (hn : xs.length ≤ 65536) (hx : ∀ x, x ∈ xs → 0 ≤ x) : ∀ (d i : Nat) (acc : List Int), xs.length - i = d → acc.length ≤ i → i ≤ xs.length → (∀ x, x ∈ acc → -2 ≤ x) →
    ∃ q, Ev (fun k => spec_l05Parts.l0 k xs acc (i : Int)) q ∧ Ev (fun k => impl_items.l0 k xs (acc.map sw) (i : Int)) (q.map sw) ∧ (∀ x, x ∈ q → -2 ≤ x) ∧ q.length ≤ xs.length := by
  intro d
  induction d using Nat.strongRecOn with
  | _ d ih =>
    intro i acc hd hl hi hacc
    have hm : (acc.map sw).length = acc.length := List.length_map ..
    by_cases c : i < xs.length
    · have push : ∀ v j, -2 ≤ v → i < j → j ≤ xs.length → ∃ q, Ev (fun k => spec_l05Parts.l0 k xs (acc ++ [v]) (j : Int)) q ∧ Ev (fun k => impl_items.l0 k xs (acc.map sw ++ [sw v]) (j : Int)) (q.map sw) ∧ (∀ x, x ∈ q → -2 ≤ x) ∧ q.length ≤ xs.length := by
        intro v j hv hj hj2
        obtain ⟨q, h1, h2, h3⟩ := ih (xs.length - j) (by omega) j (acc ++ [v]) rfl (by simp; omega) hj2 (by
          intro x hx
          rcases List.mem_append.1 hx with h | h
          · exact hacc x h
          · rw [List.mem_singleton.1 h]; exact hv)
        rw [List.map_append] at h2
        exact ⟨q, h1, h2, h3⟩
      have hg := getD_pos xs hx i
      have e1 := wn i (by omega)
      have e2 := wn (i + 1) (by omega)
      by_cases c42 : xs.getD i 0 = 42
      · obtain ⟨q, h1, h2, h3⟩ := push (-2) (i + 1) (by omega) (by omega) (by omega)
        refine ⟨q, Ev.step (fun k => ?_) h1, Ev.step (fun k => ?_) h2, h3⟩
        · rw [spec_l05Parts.l0, if_pos (by omega), if_pos (by omega), rd_nat, if_pos c42, if_pos (by omega), e1]
        · rw [impl_items.l0, if_pos (by omega), if_pos (by omega), rd_nat, if_pos c42, if_pos (by omega), e1]; rfl
      · by_cases c63 : xs.getD i 0 = 63
        · obtain ⟨q, h1, h2, h3⟩ := push (-1) (i + 1) (by omega) (by omega) (by omega)
          refine ⟨q, Ev.step (fun k => ?_) h1, Ev.step (fun k => ?_) h2, h3⟩
          · rw [spec_l05Parts.l0, if_pos (by omega), if_pos (by omega), rd_nat, if_neg c42, if_pos c63, if_pos (by omega), e1]
          · rw [impl_items.l0, if_pos (by omega), if_pos (by omega), rd_nat, if_neg c42, if_pos c63, if_pos (by omega), e1]; rfl
        · by_cases c92 : xs.getD i 0 = 92 ∧ i + 1 < xs.length
          · have hg2 := getD_pos xs hx (i + 1)
            obtain ⟨q, h1, h2, h3⟩ := push (xs.getD (i + 1) 0) (i + 2) (by omega) (by omega) (by omega)
            rw [sw_id _ hg2] at h2
            refine ⟨q, Ev.step (fun k => ?_) h1, Ev.step (fun k => ?_) h2, h3⟩
            · rw [spec_l05Parts.l0, if_pos (by omega), if_pos (by omega), rd_nat, if_neg c42, if_neg c63, if_pos c92.1, e1, if_pos (by omega), if_pos (by omega), if_pos (by omega), rd_nat, e2]
            · rw [impl_items.l0, if_pos (by omega), if_pos (by omega), rd_nat, if_neg c42, if_neg c63, if_pos c92.1, e1, if_pos (by omega), if_pos (by omega), if_pos (by omega), rd_nat, e2]
          · obtain ⟨q, h1, h2, h3⟩ := push (xs.getD i 0) (i + 1) (by omega) (by omega) (by omega)
            rw [sw_id _ hg] at h2
            by_cases c9 : xs.getD i 0 = 92
            · refine ⟨q, Ev.step (fun k => ?_) h1, Ev.step (fun k => ?_) h2, h3⟩
              · rw [spec_l05Parts.l0, if_pos (by omega), if_pos (by omega), rd_nat, if_neg c42, if_neg c63, if_pos c9, e1, if_neg (by omega), if_pos (by omega)]
              · rw [impl_items.l0, if_pos (by omega), if_pos (by omega), rd_nat, if_neg c42, if_neg c63, if_pos c9, e1, if_neg (by omega), if_pos (by omega)]
            · refine ⟨q, Ev.step (fun k => ?_) h1, Ev.step (fun k => ?_) h2, h3⟩
              · rw [spec_l05Parts.l0, if_pos (by omega), if_pos (by omega), rd_nat, if_neg c42, if_neg c63, if_neg c9, if_pos (by omega), e1]
              · rw [impl_items.l0, if_pos (by omega), if_pos (by omega), rd_nat, if_neg c42, if_neg c63, if_neg c9, if_pos (by omega), e1]
    · refine ⟨acc, Ev.step (fun k => ?_) (Ev.now _), Ev.step (fun k => ?_) (Ev.now _), hacc, by omega⟩
      · rw [spec_l05Parts.l0, if_neg (by omega)]
      · rw [impl_items.l0, if_neg (by omega)]

/-! ### The match -/
theorem tail_both (pat : List Int) (hp : pat.length ≤ 65536) (hq : ∀ x, x ∈ pat → -2 ≤ x) (d : Nat) : ∀ p, p + d = pat.length →
    ∃ r, Ev (fun k => spec_LikeText.l1 k pat (p : Int)) r ∧ Ev (fun k => impl_LikeText.l1 k (pat.map sw) (p : Int)) r := by
  have hm : (pat.map sw).length = pat.length := List.length_map ..
  induction d with
  | zero =>
    intro p h
    refine ⟨((p : Int) == (pat.length : Int), 0), Ev.step (fun k => ?_) (Ev.now _), Ev.step (fun k => ?_) (Ev.now _)⟩
    · rw [spec_LikeText.l1, if_neg (by omega)]
    · rw [impl_LikeText.l1, if_neg (by omega), hm]
  | succ d ih =>
    intro p h
    have hg := getD_low pat hq p
    by_cases c : pat.getD p 0 = -2
    · obtain ⟨r, h1, h2⟩ := ih (p + 1) (by omega)
      refine ⟨r, Ev.step (fun k => ?_) h1, Ev.step (fun k => ?_) h2⟩
      · rw [spec_LikeText.l1, if_pos (by omega), if_pos (by omega), rd_nat, if_pos c, wn p (by omega)]
      · rw [impl_LikeText.l1, if_pos (by omega), if_pos (by omega), rd_nat, getD_sw, if_pos (by rw [c]; rfl), wn p (by omega)]
    · refine ⟨((p : Int) == (pat.length : Int), 0), Ev.step (fun k => ?_) (Ev.now _), Ev.step (fun k => ?_) (Ev.now _)⟩
      · rw [spec_LikeText.l1, if_pos (by omega), if_pos (by omega), rd_nat, if_neg c]
      · rw [impl_LikeText.l1, if_pos (by omega), if_pos (by omega), rd_nat, getD_sw, if_neg (by unfold sw; rw [if_neg c]; split <;> omega), hm]

theorem S1 (k : Nat) (t q : List Int) (st : Int) (m i p : Nat) (ht : i < t.length) (hp : p < q.length) : spec_LikeText.l0 (k + 1) t q st (m : Int) (i : Int) (p : Int) = spec_LikeText.j2 k t q st (m : Int) (i : Int) (p : Int) (q.getD p 0 == -2) := by
  rw [spec_LikeText.l0, if_pos (by omega), if_pos (by omega), if_pos (by omega), rd_nat]
theorem S2 (k : Nat) (t q : List Int) (st : Int) (m i p : Nat) (ht : i < t.length) (hp : ¬ p < q.length) : spec_LikeText.l0 (k + 1) t q st (m : Int) (i : Int) (p : Int) = spec_LikeText.j2 k t q st (m : Int) (i : Int) (p : Int) false := by
  rw [spec_LikeText.l0, if_pos (by omega), if_neg (by omega)]
theorem S3 (k : Nat) (t q : List Int) (st : Int) (m i p : Nat) (hp : p ≤ 65536) : spec_LikeText.j2 (k + 1) t q st (m : Int) (i : Int) (p : Int) true = spec_LikeText.l0 k t q (p : Int) (i : Int) (i : Int) ((p + 1 : Nat) : Int) := by
  rw [spec_LikeText.j2, if_pos rfl, wn p (by omega)]
theorem S4 (k : Nat) (t q : List Int) (st : Int) (m i p : Nat) (hp : p < q.length) (hq : q.getD p 0 = -1) : spec_LikeText.j2 (k + 1) t q st (m : Int) (i : Int) (p : Int) false = spec_LikeText.j3 k t q st (m : Int) (i : Int) (p : Int) true := by
  rw [spec_LikeText.j2, if_neg (by simp), if_pos (by omega), if_pos (by omega), rd_nat, if_pos hq]
theorem S5 (k : Nat) (t q : List Int) (st : Int) (m i p : Nat) (ht : i < t.length) (hp : p < q.length) (hq : ¬ q.getD p 0 = -1) : spec_LikeText.j2 (k + 1) t q st (m : Int) (i : Int) (p : Int) false = spec_LikeText.j3 k t q st (m : Int) (i : Int) (p : Int) (q.getD p 0 == t.getD i 0) := by
  rw [spec_LikeText.j2, if_neg (by simp), if_pos (by omega), if_pos (by omega), rd_nat, if_neg hq, if_pos (by omega), if_pos (by omega), rd_nat]
theorem S6 (k : Nat) (t q : List Int) (st : Int) (m i p : Nat) (hp : ¬ p < q.length) : spec_LikeText.j2 (k + 1) t q st (m : Int) (i : Int) (p : Int) false = spec_LikeText.j3 k t q st (m : Int) (i : Int) (p : Int) false := by
  rw [spec_LikeText.j2, if_neg (by simp), if_neg (by omega)]
theorem S7 (k : Nat) (t q : List Int) (st : Int) (m i p : Nat) (hi : i ≤ 65536) (hp : p ≤ 65536) : spec_LikeText.j3 (k + 1) t q st (m : Int) (i : Int) (p : Int) true = spec_LikeText.l0 k t q st (m : Int) ((i + 1 : Nat) : Int) ((p + 1 : Nat) : Int) := by
  rw [spec_LikeText.j3, if_pos rfl, wn i (by omega), wn p (by omega)]
theorem S8 (k : Nat) (t q : List Int) (st : Int) (m i p : Nat) (s : Nat) (hst : st = (s : Int)) (hs : s ≤ 65536) (hm : m ≤ 65536) : spec_LikeText.j3 (k + 1) t q st (m : Int) (i : Int) (p : Int) false = spec_LikeText.l0 k t q st ((m + 1 : Nat) : Int) ((m + 1 : Nat) : Int) ((s + 1 : Nat) : Int) := by
  rw [spec_LikeText.j3, if_neg (by simp), if_pos (by omega), wn m (by omega), hst, wn s (by omega)]
theorem S9 (k : Nat) (t q : List Int) (st : Int) (m i p : Nat) (hst : st = -1) : spec_LikeText.j3 (k + 1) t q st (m : Int) (i : Int) (p : Int) false = some (false, 0) := by
  rw [spec_LikeText.j3, if_neg (by simp), if_neg (by omega)]
theorem I1 (k : Nat) (t q : List Int) (st : Int) (m i p : Nat) (ht : i < t.length) (hp : p < q.length) (hq : q.getD p 0 = -2) : impl_LikeText.l0 (k + 1) t q (p : Int) (i : Int) st (m : Int) = impl_LikeText.j3 k t q (p : Int) (i : Int) st (m : Int) true := by
  rw [impl_LikeText.l0, if_pos (by omega), if_pos (by omega), if_pos (by omega), rd_nat, if_pos hq]
theorem I2 (k : Nat) (t q : List Int) (st : Int) (m i p : Nat) (ht : i < t.length) (hp : p < q.length) (hq : ¬ q.getD p 0 = -2) : impl_LikeText.l0 (k + 1) t q (p : Int) (i : Int) st (m : Int) = impl_LikeText.j3 k t q (p : Int) (i : Int) st (m : Int) (q.getD p 0 == t.getD i 0) := by
  rw [impl_LikeText.l0, if_pos (by omega), if_pos (by omega), if_pos (by omega), rd_nat, if_neg hq, if_pos (by omega), rd_nat]
theorem I3 (k : Nat) (t q : List Int) (st : Int) (m i p : Nat) (ht : i < t.length) (hp : ¬ p < q.length) : impl_LikeText.l0 (k + 1) t q (p : Int) (i : Int) st (m : Int) = impl_LikeText.j3 k t q (p : Int) (i : Int) st (m : Int) false := by
  rw [impl_LikeText.l0, if_pos (by omega), if_neg (by omega)]
theorem I4 (k : Nat) (t q : List Int) (st : Int) (m i p : Nat) (hi : i ≤ 65536) (hp : p ≤ 65536) : impl_LikeText.j3 (k + 1) t q (p : Int) (i : Int) st (m : Int) true = impl_LikeText.l0 k t q ((p + 1 : Nat) : Int) ((i + 1 : Nat) : Int) st (m : Int) := by
  rw [impl_LikeText.j3, if_pos rfl, wn i (by omega), wn p (by omega)]
theorem I5 (k : Nat) (t q : List Int) (st : Int) (m i p : Nat) (hp : p < q.length) : impl_LikeText.j3 (k + 1) t q (p : Int) (i : Int) st (m : Int) false = impl_LikeText.j4 k t q (p : Int) (i : Int) st (m : Int) (q.getD p 0 == -1) := by
  rw [impl_LikeText.j3, if_neg (by simp), if_pos (by omega), if_pos (by omega), rd_nat]
theorem I6 (k : Nat) (t q : List Int) (st : Int) (m i p : Nat) (hp : ¬ p < q.length) : impl_LikeText.j3 (k + 1) t q (p : Int) (i : Int) st (m : Int) false = impl_LikeText.j4 k t q (p : Int) (i : Int) st (m : Int) false := by
  rw [impl_LikeText.j3, if_neg (by simp), if_neg (by omega)]
theorem I7 (k : Nat) (t q : List Int) (st : Int) (m i p : Nat) (hp : p ≤ 65536) : impl_LikeText.j4 (k + 1) t q (p : Int) (i : Int) st (m : Int) true = impl_LikeText.l0 k t q ((p + 1 : Nat) : Int) (i : Int) (p : Int) (i : Int) := by
  rw [impl_LikeText.j4, if_pos rfl, wn p (by omega)]
theorem I8 (k : Nat) (t q : List Int) (st : Int) (m i p : Nat) (s : Nat) (hst : st = (s : Int)) (hs : s ≤ 65536) (hm : m ≤ 65536) : impl_LikeText.j4 (k + 1) t q (p : Int) (i : Int) st (m : Int) false = impl_LikeText.l0 k t q ((s + 1 : Nat) : Int) ((m + 1 : Nat) : Int) st ((m + 1 : Nat) : Int) := by
  rw [impl_LikeText.j4, if_neg (by simp), if_pos (by omega), wn m (by omega), hst, wn s (by omega)]
theorem I9 (k : Nat) (t q : List Int) (st : Int) (m i p : Nat) (hst : st = -1) : impl_LikeText.j4 (k + 1) t q (p : Int) (i : Int) st (m : Int) false = some (false, 0) := by
  rw [impl_LikeText.j4, if_neg (by simp), if_neg (by omega)]

/-- What the two tell of one place. -/
def Both (t q : List Int) (st : Int) (m i p : Nat) : Prop :=
  ∃ r, Ev (fun k => spec_LikeText.l0 k t q st (m : Int) (i : Int) (p : Int)) r ∧ Ev (fun k => impl_LikeText.l0 k t (q.map sw) (p : Int) (i : Int) st (m : Int)) r
def BackB (t q : List Int) (st : Int) (m i p : Nat) : Prop :=
  ∃ r, Ev (fun k => spec_LikeText.j3 k t q st (m : Int) (i : Int) (p : Int) false) r ∧ Ev (fun k => impl_LikeText.j4 k t (q.map sw) (p : Int) (i : Int) st (m : Int) false) r
theorem back_none (t q : List Int) (m i p : Nat) : BackB t q (-1) m i p :=
  ⟨(false, 0), Ev.step (fun k => S9 k t q (-1) m i p rfl) (Ev.now _), Ev.step (fun k => I9 k t (q.map sw) (-1) m i p rfl) (Ev.now _)⟩
theorem back_to (t q : List Int) (s m i p : Nat) (hs : s ≤ 65536) (hm : m ≤ 65536) (h : Both t q (s : Int) (m + 1) (m + 1) (s + 1)) : BackB t q (s : Int) m i p := by
  obtain ⟨r, h1, h2⟩ := h
  exact ⟨r, Ev.step (fun k => S8 k t q _ m i p s rfl hs hm) h1, Ev.step (fun k => I8 k t (q.map sw) _ m i p s rfl hs hm) h2⟩
theorem step_out (t q : List Int) (st : Int) (m i p : Nat) (hi : i < t.length) (hp : ¬ p < q.length) (h : BackB t q st m i p) : Both t q st m i p := by
  obtain ⟨r, h1, h2⟩ := h
  have hp' : ¬ p < (q.map sw).length := by rw [List.length_map]; exact hp
  exact ⟨r, Ev.step (fun k => S2 k t q st m i p hi hp) (Ev.step (fun k => S6 k t q st m i p hp) h1), Ev.step (fun k => I3 k t (q.map sw) st m i p hi hp') (Ev.step (fun k => I6 k t (q.map sw) st m i p hp') h2)⟩
theorem step_in (t q : List Int) (st : Int) (m i p : Nat) (ht : t.length ≤ 65536) (hq : q.length ≤ 65536) (hi : i < t.length) (hp : p < q.length) (u c : Int) (hu : q.getD p 0 = u) (hc : t.getD i 0 = c) (hu2 : -2 ≤ u) (hc0 : 0 ≤ c)
    (star : u = -2 → Both t q (p : Int) i i (p + 1)) (mat : u ≠ -2 → Both t q st m (i + 1) (p + 1)) (back : u ≠ -2 → BackB t q st m i p) : Both t q st m i p := by
  have hp' : p < (q.map sw).length := by rw [List.length_map]; exact hp
  have hs : (q.map sw).getD p 0 = sw u := by rw [getD_sw, hu]
  by_cases c2 : u = -2
  · obtain ⟨r, h1, h2⟩ := star c2
    have s1 : sw u = -1 := by rw [c2]; rfl
    rw [s1] at hs
    refine ⟨r, Ev.step (fun k => S1 k t q st m i p hi hp) ?_, Ev.step (fun k => I2 k t (q.map sw) st m i p hi hp' (by rw [hs]; decide)) ?_⟩
    · rw [hu, c2]; exact Ev.step (fun k => S3 k t q st m i p (by omega)) h1
    · have e : ((q.map sw).getD p 0 == t.getD i 0) = false := by rw [hs, hc]; exact beq_eq_false_iff_ne.2 (by omega)
      rw [e]
      refine Ev.step (fun k => I5 k t (q.map sw) st m i p hp') ?_
      rw [hs]
      exact Ev.step (fun k => I7 k t (q.map sw) st m i p (by omega)) h2
  · by_cases c1 : u = -1
    · obtain ⟨r, h1, h2⟩ := mat c2
      have s1 : sw u = -2 := by rw [c1]; rfl
      refine ⟨r, Ev.step (fun k => S1 k t q st m i p hi hp) ?_, Ev.step (fun k => I1 k t (q.map sw) st m i p hi hp' (by rw [hs, s1])) ?_⟩
      · rw [hu, beq_eq_false_iff_ne.2 c2]
        exact Ev.step (fun k => S4 k t q st m i p hp (by rw [hu, c1])) (Ev.step (fun k => S7 k t q st m i p (by omega) (by omega)) h1)
      · exact Ev.step (fun k => I4 k t (q.map sw) st m i p (by omega) (by omega)) h2
    · have s1 : sw u = u := sw_id _ (by omega)
      rw [s1] at hs
      have first : ∀ r, Ev (fun k => spec_LikeText.j3 k t q st (m : Int) (i : Int) (p : Int) (u == c)) r → Ev (fun k => impl_LikeText.j3 k t (q.map sw) (p : Int) (i : Int) st (m : Int) (u == c)) r → Both t q st m i p := by
        intro r h1 h2
        refine ⟨r, Ev.step (fun k => S1 k t q st m i p hi hp) ?_, Ev.step (fun k => I2 k t (q.map sw) st m i p hi hp' (by rw [hs]; exact c2)) ?_⟩
        · rw [hu, beq_eq_false_iff_ne.2 c2]
          refine Ev.step (fun k => S5 k t q st m i p hi hp (by rw [hu]; exact c1)) ?_
          rw [hu, hc]; exact h1
        · rw [hs, hc]; exact h2
      by_cases ce : u = c
      · obtain ⟨r, h1, h2⟩ := mat c2
        have e : (u == c) = true := beq_iff_eq.2 ce
        rw [e] at first
        exact first r (Ev.step (fun k => S7 k t q st m i p (by omega) (by omega)) h1) (Ev.step (fun k => I4 k t (q.map sw) st m i p (by omega) (by omega)) h2)
      · obtain ⟨r, h1, h2⟩ := back c2
        have e : (u == c) = false := beq_eq_false_iff_ne.2 ce
        rw [e] at first
        refine first r h1 (Ev.step (fun k => I5 k t (q.map sw) st m i p hp') ?_)
        rw [hs, beq_eq_false_iff_ne.2 c1]; exact h2
theorem step_end (t q : List Int) (hq : q.length ≤ 65536) (hx : ∀ x, x ∈ q → -2 ≤ x) (st : Int) (m i p : Nat) (hi : ¬ i < t.length) (hp : p ≤ q.length) : Both t q st m i p := by
  obtain ⟨r, h1, h2⟩ := tail_both q hq hx (q.length - p) p (by omega)
  refine ⟨r, Ev.step (fun k => ?_) h1, Ev.step (fun k => ?_) h2⟩
  · rw [spec_LikeText.l0, if_neg (by omega)]
  · rw [impl_LikeText.l0, if_neg (by omega)]
theorem match_both (t q : List Int) (ht : t.length ≤ 65536) (hq : q.length ≤ 65536) (hx : ∀ x, x ∈ t → 0 ≤ x) (hqx : ∀ x, x ∈ q → -2 ≤ x) :
    ∀ (A B C s m i p : Nat) (st : Int), st = (s : Int) - 1 → s + A = q.length → m + B = t.length → p + C = q.length → s ≤ p → m ≤ i → i ≤ t.length → Both t q st m i p := by
  intro A
  induction A using Nat.strongRecOn with
  | _ A ihA =>
  intro B
  induction B using Nat.strongRecOn with
  | _ B ihB =>
  intro C
  induction C using Nat.strongRecOn with
  | _ C ihC =>
  intro s m i p st hst hA hB hC hsp hmi hit
  by_cases ci : i < t.length
  · have back : BackB t q st m i p := by
      by_cases hs : s = 0
      · have e : st = -1 := by omega
        rw [e]; exact back_none t q m i p
      · obtain ⟨s', rfl⟩ : ∃ s', s = s' + 1 := ⟨s - 1, by omega⟩
        have e : st = (s' : Int) := by omega
        rw [e]
        refine back_to t q s' m i p (by omega) (by omega) ?_
        obtain ⟨B', rfl⟩ : ∃ B', B = B' + 1 := ⟨B - 1, by omega⟩
        exact ihB B' (by omega) A (s' + 1) (m + 1) (m + 1) (s' + 1) _ (by omega) hA (by omega) hA (Nat.le_refl _) (Nat.le_refl _) (by omega)
    by_cases cp : p < q.length
    · obtain ⟨C', rfl⟩ : ∃ C', C = C' + 1 := ⟨C - 1, by omega⟩
      refine step_in t q st m i p ht hq ci cp _ _ rfl rfl (getD_low q hqx p) (getD_pos t hx i) (fun _ => ?_) (fun _ => ?_) (fun _ => back)
      · obtain ⟨D', hD'⟩ : ∃ D', i + D' = t.length := ⟨t.length - i, by omega⟩
        exact ihA C' (by omega) D' C' (p + 1) i i (p + 1) (p : Int) (by omega) (by omega) hD' (by omega) (Nat.le_refl _) (Nat.le_refl _) (by omega)
      · exact ihC C' (by omega) s m (i + 1) (p + 1) st hst hA hB (by omega) (by omega) (by omega) (by omega)
    · exact step_out t q st m i p ci cp back
  · exact step_end t q hq hqx st m i p ci (by omega)

theorem tell3 (s : ByteArray) (h : ¬ (s.size : Int) > 65536) (h' : ¬ (decTell s).2 = 0) : (decTell s).2 = 3 := by
  unfold decTell at *
  rw [if_neg h] at h' ⊢
  by_cases v : Lib.validD s.data.toList = true
  · rw [if_pos v] at h'; exact absurd rfl h'
  · rw [if_neg v]
theorem j0_both (s t : ByteArray) (hs : ¬ (s.size : Int) > 65536) (b : Bool) (hb : b = decide ((t.size : Int) > 65536)) : ∃ r, Ev (fun k => spec_LikeText.j0 k s t b) r ∧ Ev (fun k => impl_LikeText.j0 k s t b) r := by
  by_cases ht : (t.size : Int) > 65536
  · have hb' : b = true := by rw [hb]; exact decide_eq_true ht
    exact ⟨(false, 2), Ev.step (fun k => by rw [spec_LikeText.j0]) (Ev.pos hb' (Ev.now _)), Ev.step (fun k => by rw [impl_LikeText.j0]) (Ev.pos hb' (Ev.now _))⟩
  · have hb' : ¬ b = true := by rw [hb]; simp; omega
    have iopen : ∀ r, Ev (fun k => if (decTell s).2 = 0 then impl_LikeText.j1 k (decTell s).1 (decTell t).1 ((decTell t).2 != 0) else impl_LikeText.j1 k (decTell s).1 (decTell t).1 true) r → Ev (fun k => impl_LikeText.j0 k s t b) r :=
      fun r h => Ev.step (fun k => by rw [impl_LikeText.j0]) (Ev.neg hb' (Ev.bind (Ev.ofEq (impl_Decode_eq s)) (Ev.bind (Ev.ofEq (impl_Decode_eq t)) h)))
    have sopen : ∀ r, Ev (fun k => if (decTell s).2 = 0 then (spec_Decode.f k t).bind fun bt166 => (if bt166.2 = 0 then ((spec_l05Parts.f k (decTell s).1).bind fun t170 => (spec_LikeText.l0 k bt166.1 t170 (-1) 0 0 0)) else (some (false, bt166.2))) else some (false, (decTell s).2)) r → Ev (fun k => spec_LikeText.j0 k s t b) r :=
      fun r h => Ev.step (fun k => by rw [spec_LikeText.j0]) (Ev.neg hb' (Ev.bind (spec_Decode_eq s) h))
    by_cases h1 : (decTell s).2 = 0
    · by_cases h2 : (decTell t).2 = 0
      · have hls := decTell_length s
        have hlt := decTell_length t
        obtain ⟨q, q1, q2, q3, q4⟩ := parts_from (decTell s).1 hls (decTell_pos s) (decTell s).1.length 0 [] (by omega) (by simp) (by omega) (by simp)
        obtain ⟨r, r1, r2⟩ := match_both (decTell t).1 q hlt (by omega) (decTell_pos t) q3 q.length (decTell t).1.length q.length 0 0 0 0 (-1) rfl (by omega) (by omega) (by omega) (by omega) (by omega) (by omega)
        refine ⟨r, sopen r (Ev.pos h1 (Ev.bind (spec_Decode_eq t) (Ev.pos h2 (Ev.bind q1 r1)))), iopen r (Ev.pos h1 ?_)⟩
        refine Ev.step (fun k => by rw [impl_LikeText.j1]) ?_
        refine Ev.neg (by simp [h2]) ?_
        exact Ev.bind q2 r2
      · refine ⟨(false, 3), sopen _ (Ev.pos h1 (Ev.bind (spec_Decode_eq t) (Ev.neg h2 ?_))), iopen _ (Ev.pos h1 (Ev.step (fun k => by rw [impl_LikeText.j1]) (Ev.pos (by simp [h2]) (Ev.now _))))⟩
        rw [tell3 t ht h2]; exact Ev.now _
    · refine ⟨(false, 3), sopen _ (Ev.neg h1 ?_), iopen _ (Ev.neg h1 (Ev.step (fun k => by rw [impl_LikeText.j1]) (Ev.pos rfl (Ev.now _))))⟩
      rw [tell3 s hs h1]; exact Ev.now _
theorem like_both (s t : ByteArray) : ∃ r, Ev (fun k => spec_LikeText.f k s t) r ∧ Ev (fun k => impl_LikeText.f k s t) r := by
  unfold spec_LikeText.f impl_LikeText.f
  by_cases hs : (s.size : Int) > 65536
  · exact ⟨(false, 2), Ev.pos hs (Ev.step (fun k => by rw [spec_LikeText.j0]) (Ev.pos rfl (Ev.now _))), Ev.pos hs (Ev.step (fun k => by rw [impl_LikeText.j0]) (Ev.pos rfl (Ev.now _)))⟩
  · obtain ⟨r, h1, h2⟩ := j0_both s t hs _ rfl
    exact ⟨r, Ev.neg hs h1, Ev.neg hs h2⟩
theorem FnExactLikeText (s t : ByteArray) (hs : s.size ≤ 140737488351232) (ht : t.size ≤ 140737488351232) : ∃ k, laws_FnExactLikeText.f k s t = some true := by
  refine Ev.rounds (g := fun k => laws_FnExactLikeText.f k s t) ?_
  unfold laws_FnExactLikeText.f
  by_cases h : (s.size : Int) > 1048576
  · exact Ev.pos h (Ev.now _)
  · refine Ev.neg h ?_
    by_cases h : (t.size : Int) > 1048576
    · exact Ev.pos h (Ev.now _)
    · refine Ev.neg h ?_
      obtain ⟨r, h1, h2⟩ := like_both s t
      refine Ev.bind h1 (Ev.bind h2 ?_)
      exact Ev.neg (by simp) (Ev.pos rfl (Ev.now _))

end Go.Proofs.YtcokeankiedfcaaDoor.Pure
