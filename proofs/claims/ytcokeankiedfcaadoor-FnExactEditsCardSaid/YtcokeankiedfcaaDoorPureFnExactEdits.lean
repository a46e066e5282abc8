/- Whatever the two texts, the program's Edits tells what the reference's Edits tells: the law answers true. No condition. -/
import Derived.Test.YtcokeankiedfcaaDoorXFnExactEditsx5
import Derived.Test.YtcokeankiedfcaaDoorKit
import Derived.Lib.ItoaNum
import Derived.Lib.Bytes
import Derived.Test.YtcokeankiedfcaaDoorWfFnExactEdits
set_option linter.unusedSimpArgs false
set_option linter.unusedVariables false
namespace Go.Proofs.YtcokeankiedfcaaDoor.Pure
open Go.RowKit Go.Proofs.YtcokeankiedfcaaDoor.XFnExactEdits Go.Proofs.YtcokeankiedfcaaDoorW.PrintWords Go.Proofs.YtcokeankiedfcaaDoorW.PrintLast Go.Proofs.YtcokeankiedfcaaDoorW.PrintMore Go.Proofs.YtcokeankiedfcaaDoor.Kit

theorem Ev.steps {α : Type} {g f : Nat → Option α} {r : α} (c : Nat) (h : ∀ k, g (k + c) = f k) (k : Ev f r) : Ev g r := by
  obtain ⟨K, hK⟩ := k
  refine ⟨K + c, fun n hn => ?_⟩
  have := h (n - c)
  rw [Nat.sub_add_cancel (by omega)] at this
  rw [this]; exact hK _ (by omega)

theorem Ev.pos {α : Type} {c : Prop} [Decidable c] {f g : Nat → Option α} {r : α} (h : c) (k : Ev f r) : Ev (fun n => if c then f n else g n) r := Ev.congr (fun n => if_pos h) k
theorem Ev.neg {α : Type} {c : Prop} [Decidable c] {f g : Nat → Option α} {r : α} (h : ¬ c) (k : Ev g r) : Ev (fun n => if c then f n else g n) r := Ev.congr (fun n => if_neg h) k
theorem Ev.ofEq {α : Type} {x : Option α} {r : α} (h : x = some r) : Ev (fun _ => x) r := ⟨0, fun _ _ => h⟩
theorem Ev.from {α : Type} {g : Nat → Option α} {r : α} (K : Nat) (h : ∀ k, K < k → g k = some r) : Ev g r := ⟨K + 1, fun k hk => h k (by omega)⟩

def eb (a : Int) : List Int := if a < 128 then [a] else if a < 2048 then [192 + a / 64, 128 + a % 64] else if a < 65536 then [224 + a / 4096, 128 + a / 64 % 64, 128 + a % 64] else [240 + a / 262144, 128 + a / 4096 % 64, 128 + a / 64 % 64, 128 + a % 64]
def chOK (a : Int) : Bool := decide (0 ≤ a ∧ a ≤ 1114111 ∧ (a < 55296 ∨ 57343 < a))

theorem chOK_iff (a : Int) : chOK a = true ↔ 0 ≤ a ∧ a ≤ 1114111 ∧ (a < 55296 ∨ 57343 < a) := by simp [chOK]

theorem eb_length (a : Int) : 1 ≤ (eb a).length ∧ (eb a).length ≤ 4 := by
  unfold eb; (repeat' split) <;> simp

theorem charOK_eq (a : Int) : spec_l01CharOK.f a = some (chOK a) := by
  unfold spec_l01CharOK.f chOK
  (repeat' split) <;> (congr 1; rw [Bool.eq_iff_iff]; simp; try omega)

theorem bytes_eq (a : Int) (h : chOK a = true) : spec_l01Bytes.f a = some (eb a) := by
  obtain ⟨h0, h1, _⟩ := (chOK_iff a).1 h
  unfold spec_l01Bytes.f eb
  simp only [Int.tdiv_eq_ediv_of_nonneg h0, Int.tmod_eq_emod_of_nonneg h0]
  have d1 : wrap64 (a / 64) = a / 64 := w64 (by omega) (by omega)
  have d2 : wrap64 (a / 4096) = a / 4096 := w64 (by omega) (by omega)
  have d3 : wrap64 (a / 262144) = a / 262144 := w64 (by omega) (by omega)
  rw [d1, d2, d3]
  have m1 : Int.tmod (a / 64) 64 = a / 64 % 64 := Int.tmod_eq_emod_of_nonneg (by omega)
  have m2 : Int.tmod (a / 4096) 64 = a / 4096 % 64 := Int.tmod_eq_emod_of_nonneg (by omega)
  rw [m1, m2]
  have b0 : wrap64 (128 + a % 64) % 256 = 128 + a % 64 := by rw [w64 (by omega) (by omega)]; omega
  have b1 : wrap64 (128 + a / 64 % 64) % 256 = 128 + a / 64 % 64 := by rw [w64 (by omega) (by omega)]; omega
  have b2 : wrap64 (128 + a / 4096 % 64) % 256 = 128 + a / 4096 % 64 := by rw [w64 (by omega) (by omega)]; omega
  rw [b0, b1, b2]
  by_cases c1 : a < 128
  · rw [if_pos c1, if_pos c1, Int.emod_eq_of_lt h0 (by omega)]
  · rw [if_neg c1, if_neg c1]
    by_cases c2 : a < 2048
    · rw [if_pos c2, if_pos c2, w64 (x := 192 + a / 64) (by omega) (by omega), Int.emod_eq_of_lt (a := 192 + a / 64) (by omega) (by omega)]
    · rw [if_neg c2, if_neg c2]
      by_cases c3 : a < 65536
      · rw [if_pos c3, if_pos c3, w64 (x := 224 + a / 4096) (by omega) (by omega), Int.emod_eq_of_lt (a := 224 + a / 4096) (by omega) (by omega)]
      · rw [if_neg c3, if_neg c3, w64 (x := 240 + a / 262144) (by omega) (by omega), Int.emod_eq_of_lt (a := 240 + a / 262144) (by omega) (by omega)]


/-! ### Decoding -/
theorem bt_get (s : ByteArray) (i : Nat) : bt s (i : Int) = ((s.get! i).toNat : Int) := by
  have h := Lib.getD_get!' s i
  unfold bt
  rw [Int.toNat_natCast]
  by_cases c : i < s.size
  · rw [dif_pos c, ← h, List.getD_eq_getElem?_getD, List.getElem?_eq_getElem (by rw [data_length]; exact c)]; rfl
  · rw [dif_neg c, ← h, List.getD_eq_getElem?_getD, List.getElem?_eq_none (by rw [data_length]; omega)]; rfl

/-- What the reference's look at a place tells, out of the decoder's step. -/
def stepR (d : Nat × Nat) : Int × Int := if d.1 = 65533 ∧ d.2 = 1 then (0, 0) else ((d.1 : Int), (d.2 : Int))
def finR (v n : Int) : Int × Int := if chOK v = true ∧ ((eb v).length : Int) = n then (v, n) else (0, 0)

theorem l0_end (s : ByteArray) (pos n v : Int) (k : Nat) : spec_l01At.l0 (k + 1) s pos n v n = some (finR v n) := by
  rw [spec_l01At.l0, if_neg (by omega), charOK_eq, Option.bind_some, finR]
  by_cases c : chOK v = true
  · rw [if_pos c, bytes_eq v c, Option.bind_some]
    by_cases c2 : ((eb v).length : Int) = n
    · rw [if_pos c2, if_pos ⟨c, c2⟩]
    · rw [if_neg c2, if_neg (fun h => c2 h.2)]
  · rw [if_neg c, if_neg (fun h => c h.1)]

theorem l0_step (s : ByteArray) (pos i n : Nat) (v : Int) (k : Nat) (hs : s.size ≤ 1048576) (hi : i < n) (hin : pos + i < s.size) (h0 : 0 ≤ v) (h1 : v ≤ 100000000) (b : Nat) (hb : (s.get! (pos + i)).toNat = b) :
    spec_l01At.l0 (k + 1) s (pos : Int) (n : Int) v (i : Int) = if b / 64 = 2 then spec_l01At.l0 k s (pos : Int) (n : Int) (v * 64 + ((b % 64 : Nat) : Int)) ((i + 1 : Nat) : Int) else some (0, 0) := by
  have hlt : b < 256 := by rw [← hb]; exact UInt8.toNat_lt _
  have e1 : Aside0 (wrap64 ((pos : Int) + (i : Int)) = ((pos + i : Nat) : Int)) := ⟨by rw [w64 (by omega) (by omega)]; omega⟩
  have e2 : Aside0 (wrap64 ((i : Int) + 1) = ((i + 1 : Nat) : Int)) := ⟨by rw [w64 (by omega) (by omega)]; omega⟩
  have e3 : Aside0 (wrap64 (b : Int) = (b : Int)) := ⟨w64 (by omega) (by omega)⟩
  rw [spec_l01At.l0, if_pos (by omega), e1.out, if_pos (by omega), if_pos (by omega), bt_get, hb, e3.out, e2.out]
  by_cases c1 : (b : Int) < 128
  · rw [if_pos c1, if_neg (by omega)]
  · rw [if_neg c1]
    by_cases c2 : (b : Int) > 191
    · rw [if_pos c2, if_neg (by omega)]
    · have e4 : wrap64 (wrap64 (wrap64 (v * 64) + (b : Int)) - 128) = v * 64 + ((b % 64 : Nat) : Int) := by
        rw [w64 (x := v * 64) (by omega) (by omega), w64 (x := v * 64 + (b : Int)) (by omega) (by omega), w64 (by omega) (by omega)]; omega
      rw [if_neg c2, if_pos (by omega), e4]

theorem at2 (s : ByteArray) (pos : Nat) (v : Int) (hs : s.size ≤ 1048576) (hp : pos < s.size) (h0 : 0 ≤ v) (h1 : v ≤ 1000) (b1 : Nat) (hb1 : (s.get! (pos + 1)).toNat = b1) :
    Ev (fun k => spec_l01At.j0 k s (pos : Int) 2 v) (if 1 < s.size - pos ∧ b1 / 64 = 2 then finR (v * 64 + ((b1 % 64 : Nat) : Int)) 2 else (0, 0)) := by
  have e1 : Aside0 (wrap64 ((pos : Int) + 2) = ((pos + 2 : Nat) : Int)) := ⟨by rw [w64 (by omega) (by omega)]; omega⟩
  by_cases c : 1 < s.size - pos
  · have hst := fun k => l0_step s pos 1 2 v k hs (by omega) (by omega) h0 (by omega) b1 hb1
    by_cases d : b1 / 64 = 2
    · rw [if_pos ⟨c, d⟩]
      refine Ev.steps 3 (fun k => ?_) (Ev.now _)
      have h := hst (k + 1)
      rw [if_pos d] at h
      rw [spec_l01At.j0, e1.out, if_neg (by omega)]
      exact h.trans (l0_end s _ _ _ _)
    · rw [if_neg (fun h => d h.2)]
      refine Ev.steps 2 (fun k => ?_) (Ev.now _)
      have h := hst k
      rw [if_neg d] at h
      rw [spec_l01At.j0, e1.out, if_neg (by omega)]
      exact h
  · rw [if_neg (fun h => c h.1)]
    refine Ev.step (fun k => ?_) (Ev.now _)
    rw [spec_l01At.j0, e1.out, if_pos (by omega)]

theorem at3 (s : ByteArray) (pos : Nat) (v : Int) (hs : s.size ≤ 1048576) (hp : pos < s.size) (h0 : 0 ≤ v) (h1 : v ≤ 1000) (b1 b2 : Nat) (hb1 : (s.get! (pos + 1)).toNat = b1) (hb2 : (s.get! (pos + 2)).toNat = b2) :
    Ev (fun k => spec_l01At.j0 k s (pos : Int) 3 v) (if 2 < s.size - pos ∧ b1 / 64 = 2 ∧ b2 / 64 = 2 then finR ((v * 64 + ((b1 % 64 : Nat) : Int)) * 64 + ((b2 % 64 : Nat) : Int)) 3 else (0, 0)) := by
  have e1 : Aside0 (wrap64 ((pos : Int) + 3) = ((pos + 3 : Nat) : Int)) := ⟨by rw [w64 (by omega) (by omega)]; omega⟩
  by_cases c : 2 < s.size - pos
  · have hst := fun k => l0_step s pos 1 3 v k hs (by omega) (by omega) h0 (by omega) b1 hb1
    by_cases d : b1 / 64 = 2
    · have hst2 := fun k => l0_step s pos 2 3 (v * 64 + ((b1 % 64 : Nat) : Int)) k hs (by omega) (by omega) (by omega) (by omega) b2 hb2
      by_cases d2 : b2 / 64 = 2
      · rw [if_pos ⟨c, d, d2⟩]
        refine Ev.steps 4 (fun k => ?_) (Ev.now _)
        have h := hst (k + 2)
        rw [if_pos d] at h
        have h2 := hst2 (k + 1)
        rw [if_pos d2] at h2
        rw [spec_l01At.j0, e1.out, if_neg (by omega)]
        exact h.trans (h2.trans (l0_end s _ _ _ _))
      · rw [if_neg (fun h => d2 h.2.2)]
        refine Ev.steps 3 (fun k => ?_) (Ev.now _)
        have h := hst (k + 1)
        rw [if_pos d] at h
        have h2 := hst2 k
        rw [if_neg d2] at h2
        rw [spec_l01At.j0, e1.out, if_neg (by omega)]
        exact h.trans h2
    · rw [if_neg (fun h => d h.2.1)]
      refine Ev.steps 2 (fun k => ?_) (Ev.now _)
      have h := hst k
      rw [if_neg d] at h
      rw [spec_l01At.j0, e1.out, if_neg (by omega)]
      exact h
  · rw [if_neg (fun h => c h.1)]
    refine Ev.step (fun k => ?_) (Ev.now _)
    rw [spec_l01At.j0, e1.out, if_pos (by omega)]

theorem at4 (s : ByteArray) (pos : Nat) (v : Int) (hs : s.size ≤ 1048576) (hp : pos < s.size) (h0 : 0 ≤ v) (h1 : v ≤ 1000) (b1 b2 b3 : Nat) (hb1 : (s.get! (pos + 1)).toNat = b1) (hb2 : (s.get! (pos + 2)).toNat = b2) (hb3 : (s.get! (pos + 3)).toNat = b3) :
    Ev (fun k => spec_l01At.j0 k s (pos : Int) 4 v) (if 3 < s.size - pos ∧ b1 / 64 = 2 ∧ b2 / 64 = 2 ∧ b3 / 64 = 2 then finR (((v * 64 + ((b1 % 64 : Nat) : Int)) * 64 + ((b2 % 64 : Nat) : Int)) * 64 + ((b3 % 64 : Nat) : Int)) 4 else (0, 0)) := by
  have e1 : Aside0 (wrap64 ((pos : Int) + 4) = ((pos + 4 : Nat) : Int)) := ⟨by rw [w64 (by omega) (by omega)]; omega⟩
  by_cases c : 3 < s.size - pos
  · have hst := fun k => l0_step s pos 1 4 v k hs (by omega) (by omega) h0 (by omega) b1 hb1
    by_cases d : b1 / 64 = 2
    · have hst2 := fun k => l0_step s pos 2 4 (v * 64 + ((b1 % 64 : Nat) : Int)) k hs (by omega) (by omega) (by omega) (by omega) b2 hb2
      by_cases d2 : b2 / 64 = 2
      · have hst3 := fun k => l0_step s pos 3 4 ((v * 64 + ((b1 % 64 : Nat) : Int)) * 64 + ((b2 % 64 : Nat) : Int)) k hs (by omega) (by omega) (by omega) (by omega) b3 hb3
        by_cases d3 : b3 / 64 = 2
        · rw [if_pos ⟨c, d, d2, d3⟩]
          refine Ev.steps 5 (fun k => ?_) (Ev.now _)
          have h := hst (k + 3)
          rw [if_pos d] at h
          have h2 := hst2 (k + 2)
          rw [if_pos d2] at h2
          have h3 := hst3 (k + 1)
          rw [if_pos d3] at h3
          rw [spec_l01At.j0, e1.out, if_neg (by omega)]
          exact h.trans (h2.trans (h3.trans (l0_end s _ _ _ _)))
        · rw [if_neg (fun h => d3 h.2.2.2)]
          refine Ev.steps 4 (fun k => ?_) (Ev.now _)
          have h := hst (k + 2)
          rw [if_pos d] at h
          have h2 := hst2 (k + 1)
          rw [if_pos d2] at h2
          have h3 := hst3 k
          rw [if_neg d3] at h3
          rw [spec_l01At.j0, e1.out, if_neg (by omega)]
          exact h.trans (h2.trans h3)
      · rw [if_neg (fun h => d2 h.2.2.1)]
        refine Ev.steps 3 (fun k => ?_) (Ev.now _)
        have h := hst (k + 1)
        rw [if_pos d] at h
        have h2 := hst2 k
        rw [if_neg d2] at h2
        rw [spec_l01At.j0, e1.out, if_neg (by omega)]
        exact h.trans h2
    · rw [if_neg (fun h => d h.2.1)]
      refine Ev.steps 2 (fun k => ?_) (Ev.now _)
      have h := hst k
      rw [if_neg d] at h
      rw [spec_l01At.j0, e1.out, if_neg (by omega)]
      exact h
  · rw [if_neg (fun h => c h.1)]
    refine Ev.step (fun k => ?_) (Ev.now _)
    rw [spec_l01At.j0, e1.out, if_pos (by omega)]

theorem eb_len (v : Int) : ((eb v).length : Int) = if v < 128 then 1 else if v < 2048 then 2 else if v < 65536 then 3 else 4 := by
  unfold eb
  repeat' split
  all_goals simp
theorem finR_ok (v n : Int) (h : chOK v = true) (hl : ((eb v).length : Int) = n) : finR v n = (v, n) := by unfold finR; rw [if_pos ⟨h, hl⟩]
theorem finR_len (v n : Int) (hl : ((eb v).length : Int) ≠ n) : finR v n = (0, 0) := by unfold finR; rw [if_neg (fun h => hl h.2)]
theorem finR_ch (v n : Int) (h : ¬ (chOK v = true)) : finR v n = (0, 0) := by unfold finR; rw [if_neg (fun h' => h h'.1)]
theorem stepR_bad : stepR (65533, 1) = (0, 0) := rfl
theorem stepR_wide (v n : Nat) (h : n ≠ 1) : stepR (v, n) = ((v : Int), (n : Int)) := by unfold stepR; rw [if_neg (fun h' => h h'.2)]

theorem dec1 (m b0 b1 b2 b3 : Nat) (h : b0 < 128) : stepR (Lib.decodeN m b0 b1 b2 b3) = ((b0 : Int), 1) := by
  unfold Lib.decodeN
  rw [if_pos h, stepR, if_neg (by simp only; omega)]; rfl
theorem dec0 (m b0 b1 b2 b3 : Nat) (h : 128 ≤ b0) (h' : b0 < 192) : stepR (Lib.decodeN m b0 b1 b2 b3) = (0, 0) := by
  unfold Lib.decodeN
  rw [if_neg (by omega), if_neg (by omega), if_neg (by omega), if_neg (by omega)]; rfl
theorem dec2 (m b0 b1 b2 b3 : Nat) (h : 192 ≤ b0) (h' : b0 < 224) : stepR (Lib.decodeN m b0 b1 b2 b3) = if 1 < m ∧ b1 / 64 = 2 then finR (((b0 : Int) - 192) * 64 + ((b1 % 64 : Nat) : Int)) 2 else (0, 0) := by
  unfold Lib.decodeN
  rw [if_neg (by omega)]
  by_cases c : 1 < m ∧ b1 / 64 = 2
  · rw [if_pos ⟨by omega, c⟩, if_pos c]
    have e : ((b0 : Int) - 192) * 64 + ((b1 % 64 : Nat) : Int) = ((b0 % 32 * 64 + b1 % 64 : Nat) : Int) := by omega
    rw [e]
    have hv : b0 % 32 * 64 + b1 % 64 < 2048 := by omega
    generalize b0 % 32 * 64 + b1 % 64 = v at *
    by_cases d : v ≥ 128
    · rw [if_pos d, stepR_wide _ _ (by decide), finR_ok _ _ ((chOK_iff _).2 ⟨by omega, by omega, by omega⟩) (by rw [eb_len, if_neg (by omega), if_pos (by omega)])]; rfl
    · rw [if_neg d, stepR_bad, finR_len _ _ (by rw [eb_len, if_pos (by omega)]; decide)]
  · rw [if_neg (fun h => c h.2), if_neg (by omega), if_neg (by omega), if_neg c, stepR_bad]
theorem dec3 (m b0 b1 b2 b3 : Nat) (h : 224 ≤ b0) (h' : b0 < 240) : stepR (Lib.decodeN m b0 b1 b2 b3) = if 2 < m ∧ b1 / 64 = 2 ∧ b2 / 64 = 2 then finR ((((b0 : Int) - 224) * 64 + ((b1 % 64 : Nat) : Int)) * 64 + ((b2 % 64 : Nat) : Int)) 3 else (0, 0) := by
  unfold Lib.decodeN
  rw [if_neg (by omega), if_neg (by omega)]
  by_cases c : 2 < m ∧ b1 / 64 = 2 ∧ b2 / 64 = 2
  · rw [if_pos ⟨by omega, ⟨by omega, c.2.1⟩, c.1, c.2.2⟩, if_pos c]
    have e : (((b0 : Int) - 224) * 64 + ((b1 % 64 : Nat) : Int)) * 64 + ((b2 % 64 : Nat) : Int) = ((b0 % 16 * 4096 + b1 % 64 * 64 + b2 % 64 : Nat) : Int) := by omega
    rw [e]
    have hv : b0 % 16 * 4096 + b1 % 64 * 64 + b2 % 64 < 65536 := by omega
    generalize b0 % 16 * 4096 + b1 % 64 * 64 + b2 % 64 = v at *
    by_cases d : v ≥ 2048
    · by_cases d2 : v < 55296 ∨ 57344 ≤ v ∧ v ≤ 1114111
      · rw [if_pos ⟨d, d2⟩, stepR_wide _ _ (by decide), finR_ok _ _ ((chOK_iff _).2 ⟨by omega, by omega, by omega⟩) (by rw [eb_len, if_neg (by omega), if_neg (by omega), if_pos (by omega)])]; rfl
      · rw [if_neg (fun h => d2 h.2), stepR_bad, finR_ch _ _ (fun h => by have := (chOK_iff _).1 h; omega)]
    · rw [if_neg (fun h => d h.1), stepR_bad, finR_len _ _ (by rw [eb_len]; split <;> (try split) <;> omega)]
  · rw [if_neg (fun h => c ⟨h.2.2.1, h.2.1.2, h.2.2.2⟩), if_neg (by omega), if_neg c, stepR_bad]
theorem dec4 (m b0 b1 b2 b3 : Nat) (h : 240 ≤ b0) (h' : b0 < 256) : stepR (Lib.decodeN m b0 b1 b2 b3) = if 3 < m ∧ b1 / 64 = 2 ∧ b2 / 64 = 2 ∧ b3 / 64 = 2 then finR (((((b0 : Int) - 240) * 64 + ((b1 % 64 : Nat) : Int)) * 64 + ((b2 % 64 : Nat) : Int)) * 64 + ((b3 % 64 : Nat) : Int)) 4 else (0, 0) := by
  unfold Lib.decodeN
  rw [if_neg (by omega), if_neg (by omega), if_neg (by omega)]
  by_cases c : 3 < m ∧ b1 / 64 = 2 ∧ b2 / 64 = 2 ∧ b3 / 64 = 2
  · rw [if_pos c]
    by_cases g : b0 < 248
    · rw [if_pos ⟨by omega, ⟨by omega, c.2.1⟩, ⟨by omega, c.2.2.1⟩, c.1, c.2.2.2⟩]
      have e : ((((b0 : Int) - 240) * 64 + ((b1 % 64 : Nat) : Int)) * 64 + ((b2 % 64 : Nat) : Int)) * 64 + ((b3 % 64 : Nat) : Int) = ((b0 % 8 * 262144 + b1 % 64 * 4096 + b2 % 64 * 64 + b3 % 64 : Nat) : Int) := by omega
      rw [e]
      generalize b0 % 8 * 262144 + b1 % 64 * 4096 + b2 % 64 * 64 + b3 % 64 = v at *
      by_cases d : v ≥ 65536
      · by_cases d2 : v < 55296 ∨ 57344 ≤ v ∧ v ≤ 1114111
        · rw [if_pos ⟨d, d2⟩, stepR_wide _ _ (by decide), finR_ok _ _ ((chOK_iff _).2 ⟨by omega, by omega, by omega⟩) (by rw [eb_len, if_neg (by omega), if_neg (by omega), if_neg (by omega)])]; rfl
        · rw [if_neg (fun h => d2 h.2), stepR_bad, finR_ch _ _ (fun h => by have := (chOK_iff _).1 h; omega)]
      · rw [if_neg (fun h => d h.1), stepR_bad, finR_len _ _ (by rw [eb_len]; split <;> (try split) <;> (try split) <;> omega)]
    · rw [if_neg (by omega), stepR_bad, finR_ch _ _ (fun h => by have := (chOK_iff _).1 h; omega)]
  · rw [if_neg (fun h => c ⟨h.2.2.2.1, h.2.1.2, h.2.2.1.2, h.2.2.2.2⟩), if_neg c, stepR_bad]

theorem at_step (s : ByteArray) (pos : Nat) (hs : s.size ≤ 1048576) (hp : pos < s.size) : Ev (fun k => spec_l01At.f k s (pos : Int)) (stepR (Utf8.decode s pos)) := by
  rw [Lib.decode_at]
  generalize hm : s.size - pos = m
  obtain ⟨b0, hb0⟩ : ∃ b, (s.get! pos).toNat = b := ⟨_, rfl⟩
  obtain ⟨b1, hb1⟩ : ∃ b, (s.get! (pos + 1)).toNat = b := ⟨_, rfl⟩
  obtain ⟨b2, hb2⟩ : ∃ b, (s.get! (pos + 2)).toNat = b := ⟨_, rfl⟩
  obtain ⟨b3, hb3⟩ : ∃ b, (s.get! (pos + 3)).toNat = b := ⟨_, rfl⟩
  have hlt : b0 < 256 := by rw [← hb0]; exact UInt8.toNat_lt _
  rw [hb0, hb1, hb2, hb3]
  have e3 : Aside0 (wrap64 (b0 : Int) = (b0 : Int)) := ⟨w64 (by omega) (by omega)⟩
  unfold spec_l01At.f
  rw [bt_get, hb0, e3.out]
  refine Ev.pos (by omega) (Ev.pos (by omega) ?_)
  by_cases c1 : b0 < 128
  · rw [dec1 m b0 b1 b2 b3 c1]
    exact Ev.pos (by omega) (Ev.now _)
  · refine Ev.neg (by omega) ?_
    by_cases c2 : b0 ≥ 240
    · have e4 : wrap64 ((b0 : Int) - 240) = (b0 : Int) - 240 := w64 (by omega) (by omega)
      rw [dec4 m b0 b1 b2 b3 c2 hlt, e4, ← hm]
      exact Ev.pos (by omega) (at4 s pos _ hs hp (by omega) (by omega) b1 b2 b3 hb1 hb2 hb3)
    · refine Ev.neg (by omega) ?_
      by_cases c3 : b0 ≥ 224
      · have e4 : wrap64 ((b0 : Int) - 224) = (b0 : Int) - 224 := w64 (by omega) (by omega)
        rw [dec3 m b0 b1 b2 b3 c3 (by omega), e4, ← hm]
        exact Ev.pos (by omega) (at3 s pos _ hs hp (by omega) (by omega) b1 b2 hb1 hb2)
      · refine Ev.neg (by omega) ?_
        by_cases c4 : b0 ≥ 192
        · have e4 : wrap64 ((b0 : Int) - 192) = (b0 : Int) - 192 := w64 (by omega) (by omega)
          rw [dec2 m b0 b1 b2 b3 c4 (by omega), e4, ← hm]
          exact Ev.pos (by omega) (at2 s pos _ hs hp (by omega) (by omega) b1 hb1)
        · rw [dec0 m b0 b1 b2 b3 (by omega) (by omega)]
          exact Ev.neg (by omega) (Ev.now _)

/-! ### The whole text -/
def badAt (s : ByteArray) (pos : Nat) : Bool := decide ((Utf8.decode s pos).1 = 65533 ∧ (Utf8.decode s pos).2 = 1)
def validFrom (s : ByteArray) : Nat → Nat → Bool
  | 0, _ => true
  | n + 1, pos => if pos < s.size then (if badAt s pos then false else validFrom s n (pos + (Utf8.decode s pos).2)) else true

theorem decode_len (s : ByteArray) (pos : Nat) : (Utf8.decode s pos).2 ≤ 4 := by
  rw [Lib.decode_at]
  unfold Lib.decodeN
  repeat' split
  all_goals simp

theorem spec_loop (s : ByteArray) (hs : s.size ≤ 1048576) (fuel : Nat) : ∀ (pos : Nat) (acc : List Int), s.size ≤ pos + fuel → acc.length ≤ pos →
    Ev (fun k => spec_l01Decode.l0 k s acc (pos : Int)) (if validFrom s fuel pos then (acc ++ impl_Decode.runes s fuel pos, true) else ([], false)) := by
  induction fuel with
  | zero =>
    intro pos acc h1 h2
    rw [validFrom, if_pos rfl, impl_Decode.runes, List.append_nil]
    refine Ev.step (fun k => ?_) (Ev.now _)
    rw [spec_l01Decode.l0, if_neg (by omega)]
  | succ n ih =>
    intro pos acc h1 h2
    rw [validFrom, impl_Decode.runes]
    by_cases hp : pos < s.size
    · have hat := at_step s pos hs hp
      have hw := Lib.width_pos s pos
      have hw4 := decode_len s pos
      rw [if_pos hp, if_pos hp]
      refine Ev.step (f := fun k => (spec_l01At.f k s (pos : Int)).bind fun bt120 => if bt120.2 = 0 then some ([], false) else if acc.length < 17592186044416 then spec_l01Decode.l0 k s (acc ++ [bt120.1]) (wrap64 ((pos : Int) + bt120.2)) else none) (fun k => by rw [spec_l01Decode.l0, if_pos (by omega)]) (Ev.bind hat ?_)
      by_cases hb : badAt s pos = true
      · rw [if_pos hb]
        have hb' := of_decide_eq_true hb
        have e : stepR (Utf8.decode s pos) = (0, 0) := by unfold stepR; rw [if_pos hb']
        rw [e]
        exact Ev.pos rfl (Ev.now _)
      · rw [if_neg hb]
        have hb' : ¬ ((Utf8.decode s pos).1 = 65533 ∧ (Utf8.decode s pos).2 = 1) := fun h => hb (decide_eq_true h)
        have e : stepR (Utf8.decode s pos) = (((Utf8.decode s pos).1 : Int), ((Utf8.decode s pos).2 : Int)) := by unfold stepR; rw [if_neg hb']
        have e5 : wrap64 ((pos : Int) + ((Utf8.decode s pos).2 : Int)) = ((pos + (Utf8.decode s pos).2 : Nat) : Int) := by rw [w64 (by omega) (by omega)]; omega
        rw [e]
        simp only
        rw [e5]
        refine Ev.neg (by omega) (Ev.pos (by omega) ?_)
        have h' := ih (pos + (Utf8.decode s pos).2) (acc ++ [((Utf8.decode s pos).1 : Int)]) (by omega) (by simp; omega)
        rw [List.append_assoc] at h'
        exact h'
    · rw [if_neg hp, if_pos rfl, if_neg hp, List.append_nil]
      refine Ev.step (fun k => ?_) (Ev.now _)
      rw [spec_l01Decode.l0, if_neg (by omega)]

theorem decode_drop (s : ByteArray) (pos : Nat) : Lib.decodeL (s.data.toList.drop pos) = Utf8.decode s pos := by
  unfold Lib.decodeL
  have hsz : (⟨(s.data.toList.drop pos).toArray⟩ : ByteArray).size = s.size - pos := by
    show (s.data.toList.drop pos).toArray.size = _
    rw [List.size_toArray, List.length_drop, data_length]
  have hg : ∀ j, (⟨(s.data.toList.drop pos).toArray⟩ : ByteArray).get! j = s.get! (pos + j) := by
    intro j
    rw [← Lib.getD_get!', ← Lib.getD_get!']
    show (s.data.toList.drop pos).getD j 0 = _
    rw [List.getD_eq_getElem?_getD, List.getD_eq_getElem?_getD, List.getElem?_drop]
  rw [Lib.decode_at, Lib.decode_at, hsz, hg, hg, hg, hg]; rfl

theorem valid_from (s : ByteArray) (fuel : Nat) : ∀ pos : Nat, s.size ≤ pos + fuel → Lib.validD (s.data.toList.drop pos) = validFrom s fuel pos := by
  induction fuel with
  | zero =>
    intro pos h
    rw [List.drop_of_length_le (by rw [data_length]; omega), validFrom]; rfl
  | succ n ih =>
    intro pos h
    rw [validFrom]
    by_cases hp : pos < s.size
    · have hne : s.data.toList.drop pos ≠ [] := by
        intro e
        have := congrArg List.length e
        rw [List.length_drop, data_length] at this
        simp at this; omega
      have hw := Lib.width_pos s pos
      rw [if_pos hp, Lib.validD_step _ hne, decode_drop, List.drop_drop, ih (pos + (Utf8.decode s pos).2) (by omega)]
      unfold badAt
      by_cases hb : (Utf8.decode s pos).1 = 65533 ∧ (Utf8.decode s pos).2 = 1
      · rw [if_pos hb, decide_eq_true hb]; rfl
      · rw [if_neg hb, decide_eq_false hb]; rfl
    · rw [if_neg hp, List.drop_of_length_le (by rw [data_length]; omega)]; rfl

theorem valid_all (s : ByteArray) : Lib.validD s.data.toList = validFrom s s.size 0 := by
  have := valid_from s s.size 0 (by omega)
  rwa [List.drop_zero] at this

/-- What both tell of a text. -/
def decTell (s : ByteArray) : List Int × Int := if (s.size : Int) > 65536 then ([], 2) else if Lib.validD s.data.toList = true then (impl_Decode.runes s s.size 0, 0) else ([], 3)
theorem impl_Decode_eq (s : ByteArray) : impl_Decode.f s = some (decTell s) := by
  unfold impl_Decode.f decTell
  split
  · rfl
  · split <;> rfl
theorem runes_length (s : ByteArray) (fuel : Nat) : ∀ pos, (impl_Decode.runes s fuel pos).length ≤ fuel := by
  induction fuel with
  | zero => intro pos; simp [impl_Decode.runes]
  | succ n ih =>
    intro pos
    rw [impl_Decode.runes]
    split
    · rw [List.length_cons]; have := ih (pos + (Utf8.decode s pos).2); omega
    · simp
theorem decTell_length (s : ByteArray) : (decTell s).1.length ≤ 65536 := by
  unfold decTell
  split
  · simp
  · split
    · have := runes_length s s.size 0; simp only; omega
    · simp
theorem l01Decode_eq (s : ByteArray) (hs : s.size ≤ 1048576) : Ev (fun k => spec_l01Decode.f k s) (if Lib.validD s.data.toList = true then (impl_Decode.runes s s.size 0, true) else ([], false)) := by
  have h := spec_loop s hs s.size 0 [] (by omega) (by simp)
  rw [List.nil_append] at h
  rw [valid_all]
  exact h
theorem spec_Decode_eq (s : ByteArray) : Ev (fun k => spec_Decode.f k s) (decTell s) := by
  unfold spec_Decode.f decTell
  by_cases hb : (s.size : Int) > 65536
  · rw [if_pos hb]; exact Ev.pos hb (Ev.now _)
  · rw [if_neg hb]
    refine Ev.neg hb (Ev.bind (l01Decode_eq s (by omega)) ?_)
    by_cases hv : Lib.validD s.data.toList = true
    · rw [if_pos hv, if_pos hv]; exact Ev.pos rfl (Ev.now _)
    · rw [if_neg hv, if_neg hv]; exact Ev.neg Bool.false_ne_true (Ev.now _)

def cellv (a b prev row : List Int) (i j : Nat) : Int :=
  if a.getD i 0 = b.getD j 0 then mn (mn (prev.getD j 0) (wrap64 (prev.getD (j + 1) 0 + 1))) (wrap64 (row.getD j 0 + 1))
  else mn (mn (wrap64 (prev.getD j 0 + 1)) (wrap64 (prev.getD (j + 1) 0 + 1))) (wrap64 (row.getD j 0 + 1))
def rowv (a b prev : List Int) (i : Nat) : Nat → List Int
  | 0 => [((i + 1 : Nat) : Int)]
  | j + 1 => rowv a b prev i j ++ [cellv a b prev (rowv a b prev i j) i j]
def cnt (n : Nat) : List Int := (List.range n).map Int.ofNat
def tabv (a b : List Int) : Nat → List Int
  | 0 => cnt (b.length + 1)
  | i + 1 => rowv a b (tabv a b i) i b.length
theorem rowv_length (a b prev : List Int) (i j : Nat) : (rowv a b prev i j).length = j + 1 := by
  induction j with
  | zero => rfl
  | succ j ih => rw [rowv, List.length_append, ih]; rfl
theorem cnt_length (n : Nat) : (cnt n).length = n := by simp [cnt]
theorem cnt_succ (n : Nat) : cnt (n + 1) = cnt n ++ [(n : Int)] := by simp [cnt, List.range_succ]
theorem tabv_length (a b : List Int) (i : Nat) : (tabv a b i).length = b.length + 1 := by
  cases i with
  | zero => exact cnt_length _
  | succ i => exact rowv_length a b _ i _
theorem wn (i : Nat) (h : i ≤ 100000) : wrap64 ((i : Int) + 1) = ((i + 1 : Nat) : Int) := by rw [w64 (by omega) (by omega)]; omega
theorem wp (i : Nat) (h : i ≤ 100000) : wrap64 (((i + 1 : Nat) : Int) - 1) = (i : Int) := by rw [w64 (by omega) (by omega)]; omega
def pad (xs : List Int) (m : Nat) : List Int := xs ++ List.replicate m 0
theorem pad_len (xs : List Int) (m : Nat) : (pad xs m).length = xs.length + m := by simp [pad]
theorem pad_rd (xs : List Int) (m j : Nat) (h : j < xs.length) : (pad xs m).getD j 0 = xs.getD j 0 := by
  rw [pad, List.getD_eq_getElem?_getD, List.getD_eq_getElem?_getD, List.getElem?_append_left h]
theorem pad_set (xs : List Int) (m : Nat) (v : Int) : (pad xs (m + 1)).set xs.length v = pad (xs ++ [v]) m := by
  unfold pad
  rw [List.set_append_right xs.length v (Nat.le_refl _), Nat.sub_self, List.replicate_succ, List.set_cons_zero, List.append_assoc]; rfl
theorem pad_zero (xs : List Int) : pad xs 0 = xs := by simp [pad]
theorem pad_nil (m : Nat) : pad [] m = List.replicate m 0 := rfl

/-! ### The reference's table -/
theorem s2_loop (a b prev : List Int) (i : Nat) (r : Int) (ha : a.length ≤ 200) (hb : b.length ≤ 200) (hi : i < a.length) (hp : prev.length = b.length + 1)
    (he : Ev (fun k => spec_l05Edits.l1 k a b (rowv a b prev i b.length) ((i + 2 : Nat) : Int)) r) (d : Nat) :
    ∀ j, j + d = b.length → Ev (fun k => spec_l05Edits.l2 k a b prev ((i + 1 : Nat) : Int) (rowv a b prev i j) ((j + 1 : Nat) : Int)) r := by
  induction d with
  | zero =>
    intro j hj
    obtain rfl : j = b.length := by omega
    refine Ev.step (fun k => ?_) he
    rw [spec_l05Edits.l2, if_neg (by omega), wn (i + 1) (by omega)]
  | succ d ih =>
    intro j hj
    have hl := rowv_length a b prev i j
    refine Ev.step (fun k => ?_) (ih (j + 1) (by omega))
    rw [spec_l05Edits.l2, if_pos (by omega), wp j (by omega), wp i (by omega), if_pos (by omega), if_pos (by omega), if_pos (by omega), if_pos (by omega), if_pos (by omega), rd_nat, rd_nat, rd_nat, rd_nat, rd_nat, wn (j + 1) (by omega)]
    rw [rowv, cellv]
    by_cases c : a.getD i 0 = b.getD j 0
    · rw [if_pos c, if_pos (by omega), if_pos (by omega), if_pos (by omega), if_pos (by omega), if_pos c]
    · rw [if_neg c, if_pos (by omega), if_pos (by omega), if_pos (by omega), if_pos (by omega), if_neg c]
theorem s1_loop (a b : List Int) (ha : a.length ≤ 200) (hb : b.length ≤ 200) (d : Nat) :
    ∀ i, i + d = a.length → Ev (fun k => spec_l05Edits.l1 k a b (tabv a b i) ((i + 1 : Nat) : Int)) ((tabv a b a.length).getD b.length 0) := by
  induction d with
  | zero =>
    intro i hi
    obtain rfl : i = a.length := by omega
    have hl := tabv_length a b a.length
    refine Ev.step (fun k => ?_) (Ev.now _)
    rw [spec_l05Edits.l1, if_neg (by omega), if_pos (by omega), if_pos (by omega), rd_nat]
  | succ d ih =>
    intro i hi
    refine Ev.step (fun k => ?_) (s2_loop a b (tabv a b i) i _ ha hb (by omega) (tabv_length a b i) (ih (i + 1) (by omega)) b.length 0 (by omega))
    rw [spec_l05Edits.l1, if_pos (by omega)]; rfl
theorem s0_loop (a b : List Int) (ha : a.length ≤ 200) (hb : b.length ≤ 200) (d : Nat) :
    ∀ i, i + d = b.length + 1 → Ev (fun k => spec_l05Edits.l0 k a b (cnt i) (i : Int)) ((tabv a b a.length).getD b.length 0) := by
  induction d with
  | zero =>
    intro i hi
    obtain rfl : i = b.length + 1 := by omega
    refine Ev.step (fun k => ?_) (s1_loop a b ha hb a.length 0 (by omega))
    rw [spec_l05Edits.l0, if_neg (by omega)]; rfl
  | succ d ih =>
    intro i hi
    have hl := cnt_length i
    refine Ev.step (fun k => ?_) (ih (i + 1) (by omega))
    rw [spec_l05Edits.l0, if_pos (by omega), if_pos (by omega), wn i (by omega), cnt_succ]
theorem spec_edits_eq (a b : List Int) (ha : a.length ≤ 200) (hb : b.length ≤ 200) : Ev (fun k => spec_l05Edits.f k a b) ((tabv a b a.length).getD b.length 0) :=
  s0_loop a b ha hb (b.length + 1) 0 (by omega)

/-! ### The program's table -/
theorem i2_loop (a b prev : List Int) (i : Nat) (r : Int) (ha : a.length ≤ 200) (hb : b.length ≤ 200) (hi : i < a.length) (hp : prev.length = b.length + 1)
    (he : Ev (fun k => impl_edits.l1 k a b (rowv a b prev i b.length) (a.length : Int) ((i + 1 : Nat) : Int)) r) (d : Nat) :
    ∀ j, j + d = b.length → Ev (fun k => impl_edits.l2 k a b prev (i : Int) (pad (rowv a b prev i j) d) (a.length : Int) (i : Int) (b.length : Int) (j : Int)) r := by
  induction d with
  | zero =>
    intro j hj
    obtain rfl : j = b.length := by omega
    refine Ev.step (fun k => ?_) he
    rw [impl_edits.l2, if_neg (by omega), wn i (by omega), pad_zero]
  | succ d ih =>
    intro j hj
    have hl := rowv_length a b prev i j
    have hq := pad_len (rowv a b prev i j) (d + 1)
    refine Ev.step (fun k => ?_) (ih (j + 1) (by omega))
    rw [impl_edits.l2, if_pos (by omega), if_pos (by omega), if_pos (by omega), if_pos (by omega), if_pos (by omega), if_pos (by omega), wn j (by omega), rd_nat, rd_nat, rd_nat, rd_nat, rd_nat, pad_rd _ _ j (by omega), Int.toNat_natCast]
    have hs := pad_set (rowv a b prev i j) d
    rw [hl] at hs
    rw [rowv, cellv]
    by_cases c : a.getD i 0 = b.getD j 0
    · rw [if_pos c, if_pos (by omega), if_pos (by omega), if_pos (by omega), if_pos (by omega), if_pos c, hs]
    · rw [if_neg c, if_pos (by omega), if_pos (by omega), if_pos (by omega), if_pos (by omega), if_neg c, hs]
theorem i1_loop (a b : List Int) (ha : a.length ≤ 200) (hb : b.length ≤ 200) (d : Nat) :
    ∀ i, i + d = a.length → Ev (fun k => impl_edits.l1 k a b (tabv a b i) (a.length : Int) (i : Int)) ((tabv a b a.length).getD b.length 0) := by
  induction d with
  | zero =>
    intro i hi
    obtain rfl : i = a.length := by omega
    have hl := tabv_length a b a.length
    refine Ev.step (fun k => ?_) (Ev.now _)
    rw [impl_edits.l1, if_neg (by omega), if_pos (by omega), if_pos (by omega), rd_nat]
  | succ d ih =>
    intro i hi
    refine Ev.step (fun k => ?_) (i2_loop a b (tabv a b i) i _ ha hb (by omega) (tabv_length a b i) (ih (i + 1) (by omega)) b.length 0 (by omega))
    rw [impl_edits.l1, if_pos (by omega), wn b.length (by omega), if_pos (by omega), Int.toNat_natCast, if_pos (by omega), Option.bind_some, if_pos (by rw [List.length_replicate]; omega), wn i (by omega)]
    rfl
theorem i0_loop (a b : List Int) (ha : a.length ≤ 200) (hb : b.length ≤ 200) (d : Nat) :
    ∀ i, i + d = b.length + 1 → Ev (fun k => impl_edits.l0 k a b (pad (cnt i) d) ((b.length + 1 : Nat) : Int) (i : Int)) ((tabv a b a.length).getD b.length 0) := by
  induction d with
  | zero =>
    intro i hi
    obtain rfl : i = b.length + 1 := by omega
    refine Ev.step (fun k => ?_) (i1_loop a b ha hb a.length 0 (by omega))
    rw [impl_edits.l0, if_neg (by omega), pad_zero]; rfl
  | succ d ih =>
    intro i hi
    have hl := cnt_length i
    have hq := pad_len (cnt i) (d + 1)
    refine Ev.step (fun k => ?_) (ih (i + 1) (by omega))
    have hs := pad_set (cnt i) d
    rw [hl] at hs
    rw [impl_edits.l0, if_pos (by omega), if_pos (by omega), if_pos (by omega), Int.toNat_natCast, hs, wn i (by omega), cnt_succ]
theorem impl_edits_eq (a b : List Int) (ha : a.length ≤ 200) (hb : b.length ≤ 200) : Ev (fun k => impl_edits.f k a b) ((tabv a b a.length).getD b.length 0) := by
  unfold impl_edits.f
  rw [wn b.length (by omega), Int.toNat_natCast]
  refine Ev.pos (by omega) (Ev.pos (by omega) ?_)
  have h := i0_loop a b ha hb (b.length + 1) 0 (by omega)
  refine Ev.congr (fun k => ?_) h
  rw [Option.bind_some, List.length_replicate]; rfl

def editsTell (s t : ByteArray) : Int × Int :=
  if (s.size : Int) > 65536 ∨ (t.size : Int) > 65536 then (0, 2) else if (decTell s).2 = 0 then (if (decTell t).2 = 0 then (if ((decTell s).1.length : Int) > 200 then (0, 12) else if ((decTell t).1.length : Int) > 200 then (0, 12) else ((tabv (decTell s).1 (decTell t).1 (decTell s).1.length).getD (decTell t).1.length 0, 0)) else (0, 3)) else (0, 3)
theorem tell3 (s : ByteArray) (h : ¬ (s.size : Int) > 65536) (h' : ¬ (decTell s).2 = 0) : (decTell s).2 = 3 := by
  unfold decTell at *
  rw [if_neg h] at h' ⊢
  by_cases v : Lib.validD s.data.toList = true
  · rw [if_pos v] at h'; exact absurd rfl h'
  · rw [if_neg v]
theorem spec_j0_eq (s t : ByteArray) (hs : ¬ (s.size : Int) > 65536) (b : Bool) (hb : b = decide ((t.size : Int) > 65536)) : Ev (fun k => spec_Edits.j0 k s t b) (editsTell s t) := by
  refine Ev.step (fun k => by rw [spec_Edits.j0]) ?_
  unfold editsTell
  by_cases ht : (t.size : Int) > 65536
  · rw [if_pos (.inr ht)]; exact Ev.pos (by rw [hb]; exact decide_eq_true ht) (Ev.now _)
  · rw [if_neg (fun h => h.elim hs ht)]
    refine Ev.neg (by rw [hb]; simp; omega) (Ev.bind (spec_Decode_eq s) ?_)
    by_cases h1 : (decTell s).2 = 0
    · rw [if_pos h1]
      refine Ev.pos h1 (Ev.bind (spec_Decode_eq t) ?_)
      by_cases h2 : (decTell t).2 = 0
      · rw [if_pos h2]
        refine Ev.pos h2 ?_
        by_cases h3 : ((decTell s).1.length : Int) > 200
        · rw [if_pos h3]; exact Ev.pos h3 (Ev.now _)
        · rw [if_neg h3]
          refine Ev.neg h3 ?_
          by_cases h4 : ((decTell t).1.length : Int) > 200
          · rw [if_pos h4]; exact Ev.pos h4 (Ev.now _)
          · rw [if_neg h4]
            exact Ev.neg h4 (Ev.bind (spec_edits_eq _ _ (by omega) (by omega)) (Ev.now _))
      · rw [if_neg h2]
        refine Ev.neg h2 ?_
        rw [tell3 t ht h2]; exact Ev.now _
    · rw [if_neg h1]
      refine Ev.neg h1 ?_
      rw [tell3 s hs h1]; exact Ev.now _
theorem impl_j0_eq (s t : ByteArray) (hs : ¬ (s.size : Int) > 65536) (b : Bool) (hb : b = decide ((t.size : Int) > 65536)) : Ev (fun k => impl_Edits.j0 k s t b) (editsTell s t) := by
  refine Ev.step (fun k => by rw [impl_Edits.j0]) ?_
  unfold editsTell
  by_cases ht : (t.size : Int) > 65536
  · rw [if_pos (.inr ht)]; exact Ev.pos (by rw [hb]; exact decide_eq_true ht) (Ev.now _)
  · rw [if_neg (fun h => h.elim hs ht)]
    refine Ev.neg (by rw [hb]; simp; omega) (Ev.bind (Ev.ofEq (impl_Decode_eq s)) (Ev.bind (Ev.ofEq (impl_Decode_eq t)) ?_))
    by_cases h1 : (decTell s).2 = 0
    · rw [if_pos h1]
      refine Ev.pos h1 (Ev.step (fun k => by rw [impl_Edits.j1]) ?_)
      by_cases h2 : (decTell t).2 = 0
      · rw [if_pos h2]
        refine Ev.neg (by simp [h2]) ?_
        by_cases h3 : ((decTell s).1.length : Int) > 200
        · rw [if_pos h3]; exact Ev.pos h3 (Ev.now _)
        · rw [if_neg h3]
          refine Ev.neg h3 ?_
          by_cases h4 : ((decTell t).1.length : Int) > 200
          · rw [if_pos h4]; exact Ev.pos h4 (Ev.now _)
          · rw [if_neg h4]
            exact Ev.neg h4 (Ev.bind (impl_edits_eq _ _ (by omega) (by omega)) (Ev.now _))
      · rw [if_neg h2]
        exact Ev.pos (by simp [h2]) (Ev.now _)
    · rw [if_neg h1]
      refine Ev.neg h1 (Ev.step (fun k => by rw [impl_Edits.j1]) ?_)
      exact Ev.pos rfl (Ev.now _)
theorem spec_Edits_eq (s t : ByteArray) : Ev (fun k => spec_Edits.f k s t) (editsTell s t) := by
  unfold spec_Edits.f
  by_cases hs : (s.size : Int) > 65536
  · refine Ev.pos hs (Ev.step (fun k => by rw [spec_Edits.j0]) (Ev.pos rfl ?_))
    unfold editsTell; rw [if_pos (.inl hs)]; exact Ev.now _
  · exact Ev.neg hs (spec_j0_eq s t hs _ rfl)
theorem impl_Edits_eq (s t : ByteArray) : Ev (fun k => impl_Edits.f k s t) (editsTell s t) := by
  unfold impl_Edits.f
  by_cases hs : (s.size : Int) > 65536
  · refine Ev.pos hs (Ev.step (fun k => by rw [impl_Edits.j0]) (Ev.pos rfl ?_))
    unfold editsTell; rw [if_pos (.inl hs)]; exact Ev.now _
  · exact Ev.neg hs (impl_j0_eq s t hs _ rfl)
theorem FnExactEdits (s t : ByteArray) (hs : s.size ≤ 140737488351232) (ht : t.size ≤ 140737488351232) : ∃ k, laws_FnExactEdits.f k s t = some true := by
  refine Ev.rounds (g := fun k => laws_FnExactEdits.f k s t) ?_
  unfold laws_FnExactEdits.f
  by_cases h : (s.size : Int) > 1048576
  · exact Ev.pos h (Ev.now _)
  · refine Ev.neg h ?_
    by_cases h : (t.size : Int) > 1048576
    · exact Ev.pos h (Ev.now _)
    · refine Ev.neg h ?_
      refine Ev.bind (spec_Edits_eq s t) ?_
      refine Ev.bind (impl_Edits_eq s t) ?_
      exact Ev.pos rfl (Ev.pos rfl (Ev.now _))

end Go.Proofs.YtcokeankiedfcaaDoor.Pure
