/- Whatever the codes, the program's edits of the drawn texts are the reference's, they are none just for equal texts, the same both ways, and no more than by way of a third text: the law answers true. No condition. -/
import Derived.Test.YtcokeankiedfcaaDoorXFnDistancex8
import Derived.Test.YtcokeankiedfcaaDoorKit
import Derived.Lib.ItoaNum
import Derived.Lib.MapLaws
import Derived.Lib.Bytes
import Derived.Test.YtcokeankiedfcaaDoorWfFnDistance
set_option linter.unusedSimpArgs false
set_option linter.unusedVariables false
namespace Go.Proofs.YtcokeankiedfcaaDoor.Pure
open Go.RowKit Go.Proofs.YtcokeankiedfcaaDoor.XFnDistance Go.Proofs.YtcokeankiedfcaaDoorW.PrintWords Go.Proofs.YtcokeankiedfcaaDoorW.PrintLast Go.Proofs.YtcokeankiedfcaaDoorW.PrintMore Go.Proofs.YtcokeankiedfcaaDoor.Kit

theorem Ev.steps {α : Type} {g f : Nat → Option α} {r : α} (c : Nat) (h : ∀ k, g (k + c) = f k) (k : Ev f r) : Ev g r := by
  obtain ⟨K, hK⟩ := k
  refine ⟨K + c, fun n hn => ?_⟩
  have := h (n - c)
  rw [Nat.sub_add_cancel (by omega)] at this
  rw [this]; exact hK _ (by omega)

theorem Ev.pos {α : Type} {c : Prop} [Decidable c] {f g : Nat → Option α} {r : α} (h : c) (k : Ev f r) : Ev (fun n => if c then f n else g n) r := Ev.congr (fun n => if_pos h) k
theorem Ev.neg {α : Type} {c : Prop} [Decidable c] {f g : Nat → Option α} {r : α} (h : ¬ c) (k : Ev g r) : Ev (fun n => if c then f n else g n) r := Ev.congr (fun n => if_neg h) k
theorem Ev.ofEq {α : Type} {x : Option α} {r : α} (h : x = some r) : Ev (fun _ => x) r := ⟨0, fun _ _ => h⟩
theorem Ev.from {α : Type} {g : Nat → Option α} {r : α} (K : Nat) (h : ∀ k, K < k → g k = some r) : Ev g r := ⟨K + 1, fun k hk => h k (by omega)⟩

def eb (a : Int) : List Int := if a < 128 then [a] else if a < 2048 then [192 + a / 64, 128 + a % 64] else if a < 65536 then [224 + a / 4096, 128 + a / 64 % 64, 128 + a % 64] else [240 + a / 262144, 128 + a / 4096 % 64, 128 + a / 64 % 64, 128 + a % 64]
def chOK (a : Int) : Bool := decide (0 ≤ a ∧ a ≤ 1114111 ∧ (a < 55296 ∨ 57343 < a))

theorem chOK_iff (a : Int) : chOK a = true ↔ 0 ≤ a ∧ a ≤ 1114111 ∧ (a < 55296 ∨ 57343 < a) := by simp [chOK]

theorem eb_length (a : Int) : 1 ≤ (eb a).length ∧ (eb a).length ≤ 4 := by
  unfold eb; (repeat' split) <;> simp

theorem charOK_eq (a : Int) : spec_l01CharOK.f a = some (chOK a) := by
  unfold spec_l01CharOK.f chOK
  (repeat' split) <;> (congr 1; rw [Bool.eq_iff_iff]; simp; try omega)

theorem bytes_eq (a : Int) (h : chOK a = true) : spec_l01Bytes.f a = some (eb a) := by
  obtain ⟨h0, h1, _⟩ := (chOK_iff a).1 h
  unfold spec_l01Bytes.f eb
  simp only [Int.tdiv_eq_ediv_of_nonneg h0, Int.tmod_eq_emod_of_nonneg h0]
  have d1 : wrap64 (a / 64) = a / 64 := w64 (by omega) (by omega)
  have d2 : wrap64 (a / 4096) = a / 4096 := w64 (by omega) (by omega)
  have d3 : wrap64 (a / 262144) = a / 262144 := w64 (by omega) (by omega)
  rw [d1, d2, d3]
  have m1 : Int.tmod (a / 64) 64 = a / 64 % 64 := Int.tmod_eq_emod_of_nonneg (by omega)
  have m2 : Int.tmod (a / 4096) 64 = a / 4096 % 64 := Int.tmod_eq_emod_of_nonneg (by omega)
  rw [m1, m2]
  have b0 : wrap64 (128 + a % 64) % 256 = 128 + a % 64 := by rw [w64 (by omega) (by omega)]; omega
  have b1 : wrap64 (128 + a / 64 % 64) % 256 = 128 + a / 64 % 64 := by rw [w64 (by omega) (by omega)]; omega
  have b2 : wrap64 (128 + a / 4096 % 64) % 256 = 128 + a / 4096 % 64 := by rw [w64 (by omega) (by omega)]; omega
  rw [b0, b1, b2]
  by_cases c1 : a < 128
  · rw [if_pos c1, if_pos c1, Int.emod_eq_of_lt h0 (by omega)]
  · rw [if_neg c1, if_neg c1]
    by_cases c2 : a < 2048
    · rw [if_pos c2, if_pos c2, w64 (x := 192 + a / 64) (by omega) (by omega), Int.emod_eq_of_lt (a := 192 + a / 64) (by omega) (by omega)]
    · rw [if_neg c2, if_neg c2]
      by_cases c3 : a < 65536
      · rw [if_pos c3, if_pos c3, w64 (x := 224 + a / 4096) (by omega) (by omega), Int.emod_eq_of_lt (a := 224 + a / 4096) (by omega) (by omega)]
      · rw [if_neg c3, if_neg c3, w64 (x := 240 + a / 262144) (by omega) (by omega), Int.emod_eq_of_lt (a := 240 + a / 262144) (by omega) (by omega)]


/-! ### Decoding -/
theorem bt_get (s : ByteArray) (i : Nat) : bt s (i : Int) = ((s.get! i).toNat : Int) := by
  have h := Lib.getD_get!' s i
  unfold bt
  rw [Int.toNat_natCast]
  by_cases c : i < s.size
  · rw [dif_pos c, ← h, List.getD_eq_getElem?_getD, List.getElem?_eq_getElem (by rw [data_length]; exact c)]; rfl
  · rw [dif_neg c, ← h, List.getD_eq_getElem?_getD, List.getElem?_eq_none (by rw [data_length]; omega)]; rfl

/-- What the reference's look at a place tells, out of the decoder's step. -/
def stepR (d : Nat × Nat) : Int × Int := if d.1 = 65533 ∧ d.2 = 1 then (0, 0) else ((d.1 : Int), (d.2 : Int))
def finR (v n : Int) : Int × Int := if chOK v = true ∧ ((eb v).length : Int) = n then (v, n) else (0, 0)

theorem l0_end (s : ByteArray) (pos n v : Int) (k : Nat) : spec_l01At.l0 (k + 1) s pos n v n = some (finR v n) := by
  rw [spec_l01At.l0, if_neg (by omega), charOK_eq, Option.bind_some, finR]
  by_cases c : chOK v = true
  · rw [if_pos c, bytes_eq v c, Option.bind_some]
    by_cases c2 : ((eb v).length : Int) = n
    · rw [if_pos c2, if_pos ⟨c, c2⟩]
    · rw [if_neg c2, if_neg (fun h => c2 h.2)]
  · rw [if_neg c, if_neg (fun h => c h.1)]

theorem l0_step (s : ByteArray) (pos i n : Nat) (v : Int) (k : Nat) (hs : s.size ≤ 1048576) (hi : i < n) (hin : pos + i < s.size) (h0 : 0 ≤ v) (h1 : v ≤ 100000000) (b : Nat) (hb : (s.get! (pos + i)).toNat = b) :
    spec_l01At.l0 (k + 1) s (pos : Int) (n : Int) v (i : Int) = if b / 64 = 2 then spec_l01At.l0 k s (pos : Int) (n : Int) (v * 64 + ((b % 64 : Nat) : Int)) ((i + 1 : Nat) : Int) else some (0, 0) := by
  have hlt : b < 256 := by rw [← hb]; exact UInt8.toNat_lt _
  have e1 : Aside0 (wrap64 ((pos : Int) + (i : Int)) = ((pos + i : Nat) : Int)) := ⟨by rw [w64 (by omega) (by omega)]; omega⟩
  have e2 : Aside0 (wrap64 ((i : Int) + 1) = ((i + 1 : Nat) : Int)) := ⟨by rw [w64 (by omega) (by omega)]; omega⟩
  have e3 : Aside0 (wrap64 (b : Int) = (b : Int)) := ⟨w64 (by omega) (by omega)⟩
  rw [spec_l01At.l0, if_pos (by omega), e1.out, if_pos (by omega), if_pos (by omega), bt_get, hb, e3.out, e2.out]
  by_cases c1 : (b : Int) < 128
  · rw [if_pos c1, if_neg (by omega)]
  · rw [if_neg c1]
    by_cases c2 : (b : Int) > 191
    · rw [if_pos c2, if_neg (by omega)]
    · have e4 : wrap64 (wrap64 (wrap64 (v * 64) + (b : Int)) - 128) = v * 64 + ((b % 64 : Nat) : Int) := by
        rw [w64 (x := v * 64) (by omega) (by omega), w64 (x := v * 64 + (b : Int)) (by omega) (by omega), w64 (by omega) (by omega)]; omega
      rw [if_neg c2, if_pos (by omega), e4]

theorem at2 (s : ByteArray) (pos : Nat) (v : Int) (hs : s.size ≤ 1048576) (hp : pos < s.size) (h0 : 0 ≤ v) (h1 : v ≤ 1000) (b1 : Nat) (hb1 : (s.get! (pos + 1)).toNat = b1) :
    Ev (fun k => spec_l01At.j0 k s (pos : Int) 2 v) (if 1 < s.size - pos ∧ b1 / 64 = 2 then finR (v * 64 + ((b1 % 64 : Nat) : Int)) 2 else (0, 0)) := by
  have e1 : Aside0 (wrap64 ((pos : Int) + 2) = ((pos + 2 : Nat) : Int)) := ⟨by rw [w64 (by omega) (by omega)]; omega⟩
  by_cases c : 1 < s.size - pos
  · have hst := fun k => l0_step s pos 1 2 v k hs (by omega) (by omega) h0 (by omega) b1 hb1
    by_cases d : b1 / 64 = 2
    · rw [if_pos ⟨c, d⟩]
      refine Ev.steps 3 (fun k => ?_) (Ev.now _)
      have h := hst (k + 1)
      rw [if_pos d] at h
      rw [spec_l01At.j0, e1.out, if_neg (by omega)]
      exact h.trans (l0_end s _ _ _ _)
    · rw [if_neg (fun h => d h.2)]
      refine Ev.steps 2 (fun k => ?_) (Ev.now _)
      have h := hst k
      rw [if_neg d] at h
      rw [spec_l01At.j0, e1.out, if_neg (by omega)]
      exact h
  · rw [if_neg (fun h => c h.1)]
    refine Ev.step (fun k => ?_) (Ev.now _)
    rw [spec_l01At.j0, e1.out, if_pos (by omega)]

theorem at3 (s : ByteArray) (pos : Nat) (v : Int) (hs : s.size ≤ 1048576) (hp : pos < s.size) (h0 : 0 ≤ v) (h1 : v ≤ 1000) (b1 b2 : Nat) (hb1 : (s.get! (pos + 1)).toNat = b1) (hb2 : (s.get! (pos + 2)).toNat = b2) :
    Ev (fun k => spec_l01At.j0 k s (pos : Int) 3 v) (if 2 < s.size - pos ∧ b1 / 64 = 2 ∧ b2 / 64 = 2 then finR ((v * 64 + ((b1 % 64 : Nat) : Int)) * 64 + ((b2 % 64 : Nat) : Int)) 3 else (0, 0)) := by
  have e1 : Aside0 (wrap64 ((pos : Int) + 3) = ((pos + 3 : Nat) : Int)) := ⟨by rw [w64 (by omega) (by omega)]; omega⟩
  by_cases c : 2 < s.size - pos
  · have hst := fun k => l0_step s pos 1 3 v k hs (by omega) (by omega) h0 (by omega) b1 hb1
    by_cases d : b1 / 64 = 2
    · have hst2 := fun k => l0_step s pos 2 3 (v * 64 + ((b1 % 64 : Nat) : Int)) k hs (by omega) (by omega) (by omega) (by omega) b2 hb2
      by_cases d2 : b2 / 64 = 2
      · rw [if_pos ⟨c, d, d2⟩]
        refine Ev.steps 4 (fun k => ?_) (Ev.now _)
        have h := hst (k + 2)
        rw [if_pos d] at h
        have h2 := hst2 (k + 1)
        rw [if_pos d2] at h2
        rw [spec_l01At.j0, e1.out, if_neg (by omega)]
        exact h.trans (h2.trans (l0_end s _ _ _ _))
      · rw [if_neg (fun h => d2 h.2.2)]
        refine Ev.steps 3 (fun k => ?_) (Ev.now _)
        have h := hst (k + 1)
        rw [if_pos d] at h
        have h2 := hst2 k
        rw [if_neg d2] at h2
        rw [spec_l01At.j0, e1.out, if_neg (by omega)]
        exact h.trans h2
    · rw [if_neg (fun h => d h.2.1)]
      refine Ev.steps 2 (fun k => ?_) (Ev.now _)
      have h := hst k
      rw [if_neg d] at h
      rw [spec_l01At.j0, e1.out, if_neg (by omega)]
      exact h
  · rw [if_neg (fun h => c h.1)]
    refine Ev.step (fun k => ?_) (Ev.now _)
    rw [spec_l01At.j0, e1.out, if_pos (by omega)]

theorem at4 (s : ByteArray) (pos : Nat) (v : Int) (hs : s.size ≤ 1048576) (hp : pos < s.size) (h0 : 0 ≤ v) (h1 : v ≤ 1000) (b1 b2 b3 : Nat) (hb1 : (s.get! (pos + 1)).toNat = b1) (hb2 : (s.get! (pos + 2)).toNat = b2) (hb3 : (s.get! (pos + 3)).toNat = b3) :
    Ev (fun k => spec_l01At.j0 k s (pos : Int) 4 v) (if 3 < s.size - pos ∧ b1 / 64 = 2 ∧ b2 / 64 = 2 ∧ b3 / 64 = 2 then finR (((v * 64 + ((b1 % 64 : Nat) : Int)) * 64 + ((b2 % 64 : Nat) : Int)) * 64 + ((b3 % 64 : Nat) : Int)) 4 else (0, 0)) := by
  have e1 : Aside0 (wrap64 ((pos : Int) + 4) = ((pos + 4 : Nat) : Int)) := ⟨by rw [w64 (by omega) (by omega)]; omega⟩
  by_cases c : 3 < s.size - pos
  · have hst := fun k => l0_step s pos 1 4 v k hs (by omega) (by omega) h0 (by omega) b1 hb1
    by_cases d : b1 / 64 = 2
    · have hst2 := fun k => l0_step s pos 2 4 (v * 64 + ((b1 % 64 : Nat) : Int)) k hs (by omega) (by omega) (by omega) (by omega) b2 hb2
      by_cases d2 : b2 / 64 = 2
      · have hst3 := fun k => l0_step s pos 3 4 ((v * 64 + ((b1 % 64 : Nat) : Int)) * 64 + ((b2 % 64 : Nat) : Int)) k hs (by omega) (by omega) (by omega) (by omega) b3 hb3
        by_cases d3 : b3 / 64 = 2
        · rw [if_pos ⟨c, d, d2, d3⟩]
          refine Ev.steps 5 (fun k => ?_) (Ev.now _)
          have h := hst (k + 3)
          rw [if_pos d] at h
          have h2 := hst2 (k + 2)
          rw [if_pos d2] at h2
          have h3 := hst3 (k + 1)
          rw [if_pos d3] at h3
          rw [spec_l01At.j0, e1.out, if_neg (by omega)]
          exact h.trans (h2.trans (h3.trans (l0_end s _ _ _ _)))
        · rw [if_neg (fun h => d3 h.2.2.2)]
          refine Ev.steps 4 (fun k => ?_) (Ev.now _)
          have h := hst (k + 2)
          rw [if_pos d] at h
          have h2 := hst2 (k + 1)
          rw [if_pos d2] at h2
          have h3 := hst3 k
          rw [if_neg d3] at h3
          rw [spec_l01At.j0, e1.out, if_neg (by omega)]
          exact h.trans (h2.trans h3)
      · rw [if_neg (fun h => d2 h.2.2.1)]
        refine Ev.steps 3 (fun k => ?_) (Ev.now _)
        have h := hst (k + 1)
        rw [if_pos d] at h
        have h2 := hst2 k
        rw [if_neg d2] at h2
        rw [spec_l01At.j0, e1.out, if_neg (by omega)]
        exact h.trans h2
    · rw [if_neg (fun h => d h.2.1)]
      refine Ev.steps 2 (fun k => ?_) (Ev.now _)
      have h := hst k
      rw [if_neg d] at h
      rw [spec_l01At.j0, e1.out, if_neg (by omega)]
      exact h
  · rw [if_neg (fun h => c h.1)]
    refine Ev.step (fun k => ?_) (Ev.now _)
    rw [spec_l01At.j0, e1.out, if_pos (by omega)]

theorem eb_len (v : Int) : ((eb v).length : Int) = if v < 128 then 1 else if v < 2048 then 2 else if v < 65536 then 3 else 4 := by
  unfold eb
  repeat' split
  all_goals simp
theorem finR_ok (v n : Int) (h : chOK v = true) (hl : ((eb v).length : Int) = n) : finR v n = (v, n) := by unfold finR; rw [if_pos ⟨h, hl⟩]
theorem finR_len (v n : Int) (hl : ((eb v).length : Int) ≠ n) : finR v n = (0, 0) := by unfold finR; rw [if_neg (fun h => hl h.2)]
theorem finR_ch (v n : Int) (h : ¬ (chOK v = true)) : finR v n = (0, 0) := by unfold finR; rw [if_neg (fun h' => h h'.1)]
theorem stepR_bad : stepR (65533, 1) = (0, 0) := rfl
theorem stepR_wide (v n : Nat) (h : n ≠ 1) : stepR (v, n) = ((v : Int), (n : Int)) := by unfold stepR; rw [if_neg (fun h' => h h'.2)]

theorem dec1 (m b0 b1 b2 b3 : Nat) (h : b0 < 128) : stepR (Lib.decodeN m b0 b1 b2 b3) = ((b0 : Int), 1) := by
  unfold Lib.decodeN
  rw [if_pos h, stepR, if_neg (by simp only; omega)]; rfl
theorem dec0 (m b0 b1 b2 b3 : Nat) (h : 128 ≤ b0) (h' : b0 < 192) : stepR (Lib.decodeN m b0 b1 b2 b3) = (0, 0) := by
  unfold Lib.decodeN
  rw [if_neg (by omega), if_neg (by omega), if_neg (by omega), if_neg (by omega)]; rfl
theorem dec2 (m b0 b1 b2 b3 : Nat) (h : 192 ≤ b0) (h' : b0 < 224) : stepR (Lib.decodeN m b0 b1 b2 b3) = if 1 < m ∧ b1 / 64 = 2 then finR (((b0 : Int) - 192) * 64 + ((b1 % 64 : Nat) : Int)) 2 else (0, 0) := by
  unfold Lib.decodeN
  rw [if_neg (by omega)]
  by_cases c : 1 < m ∧ b1 / 64 = 2
  · rw [if_pos ⟨by omega, c⟩, if_pos c]
    have e : ((b0 : Int) - 192) * 64 + ((b1 % 64 : Nat) : Int) = ((b0 % 32 * 64 + b1 % 64 : Nat) : Int) := by omega
    rw [e]
    have hv : b0 % 32 * 64 + b1 % 64 < 2048 := by omega
    generalize b0 % 32 * 64 + b1 % 64 = v at *
    by_cases d : v ≥ 128
    · rw [if_pos d, stepR_wide _ _ (by decide), finR_ok _ _ ((chOK_iff _).2 ⟨by omega, by omega, by omega⟩) (by rw [eb_len, if_neg (by omega), if_pos (by omega)])]; rfl
    · rw [if_neg d, stepR_bad, finR_len _ _ (by rw [eb_len, if_pos (by omega)]; decide)]
  · rw [if_neg (fun h => c h.2), if_neg (by omega), if_neg (by omega), if_neg c, stepR_bad]
theorem dec3 (m b0 b1 b2 b3 : Nat) (h : 224 ≤ b0) (h' : b0 < 240) : stepR (Lib.decodeN m b0 b1 b2 b3) = if 2 < m ∧ b1 / 64 = 2 ∧ b2 / 64 = 2 then finR ((((b0 : Int) - 224) * 64 + ((b1 % 64 : Nat) : Int)) * 64 + ((b2 % 64 : Nat) : Int)) 3 else (0, 0) := by
  unfold Lib.decodeN
  rw [if_neg (by omega), if_neg (by omega)]
  by_cases c : 2 < m ∧ b1 / 64 = 2 ∧ b2 / 64 = 2
  · rw [if_pos ⟨by omega, ⟨by omega, c.2.1⟩, c.1, c.2.2⟩, if_pos c]
    have e : (((b0 : Int) - 224) * 64 + ((b1 % 64 : Nat) : Int)) * 64 + ((b2 % 64 : Nat) : Int) = ((b0 % 16 * 4096 + b1 % 64 * 64 + b2 % 64 : Nat) : Int) := by omega
    rw [e]
    have hv : b0 % 16 * 4096 + b1 % 64 * 64 + b2 % 64 < 65536 := by omega
    generalize b0 % 16 * 4096 + b1 % 64 * 64 + b2 % 64 = v at *
    by_cases d : v ≥ 2048
    · by_cases d2 : v < 55296 ∨ 57344 ≤ v ∧ v ≤ 1114111
      · rw [if_pos ⟨d, d2⟩, stepR_wide _ _ (by decide), finR_ok _ _ ((chOK_iff _).2 ⟨by omega, by omega, by omega⟩) (by rw [eb_len, if_neg (by omega), if_neg (by omega), if_pos (by omega)])]; rfl
      · rw [if_neg (fun h => d2 h.2), stepR_bad, finR_ch _ _ (fun h => by have := (chOK_iff _).1 h; omega)]
    · rw [if_neg (fun h => d h.1), stepR_bad, finR_len _ _ (by rw [eb_len]; split <;> (try split) <;> omega)]
  · rw [if_neg (fun h => c ⟨h.2.2.1, h.2.1.2, h.2.2.2⟩), if_neg (by omega), if_neg c, stepR_bad]
theorem dec4 (m b0 b1 b2 b3 : Nat) (h : 240 ≤ b0) (h' : b0 < 256) : stepR (Lib.decodeN m b0 b1 b2 b3) = if 3 < m ∧ b1 / 64 = 2 ∧ b2 / 64 = 2 ∧ b3 / 64 = 2 then finR (((((b0 : Int) - 240) * 64 + ((b1 % 64 : Nat) : Int)) * 64 + ((b2 % 64 : Nat) : Int)) * 64 + ((b3 % 64 : Nat) : Int)) 4 else (0, 0) := by
  unfold Lib.decodeN
  rw [if_neg (by omega), if_neg (by omega), if_neg (by omega)]
  by_cases c : 3 < m ∧ b1 / 64 = 2 ∧ b2 / 64 = 2 ∧ b3 / 64 = 2
  · rw [if_pos c]
    by_cases g : b0 < 248
    · rw [if_pos ⟨by omega, ⟨by omega, c.2.1⟩, ⟨by omega, c.2.2.1⟩, c.1, c.2.2.2⟩]
      have e : ((((b0 : Int) - 240) * 64 + ((b1 % 64 : Nat) : Int)) * 64 + ((b2 % 64 : Nat) : Int)) * 64 + ((b3 % 64 : Nat) : Int) = ((b0 % 8 * 262144 + b1 % 64 * 4096 + b2 % 64 * 64 + b3 % 64 : Nat) : Int) := by omega
      rw [e]
      generalize b0 % 8 * 262144 + b1 % 64 * 4096 + b2 % 64 * 64 + b3 % 64 = v at *
      by_cases d : v ≥ 65536
      · by_cases d2 : v < 55296 ∨ 57344 ≤ v ∧ v ≤ 1114111
        · rw [if_pos ⟨d, d2⟩, stepR_wide _ _ (by decide), finR_ok _ _ ((chOK_iff _).2 ⟨by omega, by omega, by omega⟩) (by rw [eb_len, if_neg (by omega), if_neg (by omega), if_neg (by omega)])]; rfl
        · rw [if_neg (fun h => d2 h.2), stepR_bad, finR_ch _ _ (fun h => by have := (chOK_iff _).1 h; omega)]
      · rw [if_neg (fun h => d h.1), stepR_bad, finR_len _ _ (by rw [eb_len]; split <;> (try split) <;> (try split) <;> omega)]
    · rw [if_neg (by omega), stepR_bad, finR_ch _ _ (fun h => by have := (chOK_iff _).1 h; omega)]
  · rw [if_neg (fun h => c ⟨h.2.2.2.1, h.2.1.2, h.2.2.1.2, h.2.2.2.2⟩), if_neg c, stepR_bad]

theorem at_step (s : ByteArray) (pos : Nat) (hs : s.size ≤ 1048576) (hp : pos < s.size) : Ev (fun k => spec_l01At.f k s (pos : Int)) (stepR (Utf8.decode s pos)) := by
  rw [Lib.decode_at]
  generalize hm : s.size - pos = m
  obtain ⟨b0, hb0⟩ : ∃ b, (s.get! pos).toNat = b := ⟨_, rfl⟩
  obtain ⟨b1, hb1⟩ : ∃ b, (s.get! (pos + 1)).toNat = b := ⟨_, rfl⟩
  obtain ⟨b2, hb2⟩ : ∃ b, (s.get! (pos + 2)).toNat = b := ⟨_, rfl⟩
  obtain ⟨b3, hb3⟩ : ∃ b, (s.get! (pos + 3)).toNat = b := ⟨_, rfl⟩
  have hlt : b0 < 256 := by rw [← hb0]; exact UInt8.toNat_lt _
  rw [hb0, hb1, hb2, hb3]
  have e3 : Aside0 (wrap64 (b0 : Int) = (b0 : Int)) := ⟨w64 (by omega) (by omega)⟩
  unfold spec_l01At.f
  rw [bt_get, hb0, e3.out]
  refine Ev.pos (by omega) (Ev.pos (by omega) ?_)
  by_cases c1 : b0 < 128
  · rw [dec1 m b0 b1 b2 b3 c1]
    exact Ev.pos (by omega) (Ev.now _)
  · refine Ev.neg (by omega) ?_
    by_cases c2 : b0 ≥ 240
    · have e4 : wrap64 ((b0 : Int) - 240) = (b0 : Int) - 240 := w64 (by omega) (by omega)
      rw [dec4 m b0 b1 b2 b3 c2 hlt, e4, ← hm]
      exact Ev.pos (by omega) (at4 s pos _ hs hp (by omega) (by omega) b1 b2 b3 hb1 hb2 hb3)
    · refine Ev.neg (by omega) ?_
      by_cases c3 : b0 ≥ 224
      · have e4 : wrap64 ((b0 : Int) - 224) = (b0 : Int) - 224 := w64 (by omega) (by omega)
        rw [dec3 m b0 b1 b2 b3 c3 (by omega), e4, ← hm]
        exact Ev.pos (by omega) (at3 s pos _ hs hp (by omega) (by omega) b1 b2 hb1 hb2)
      · refine Ev.neg (by omega) ?_
        by_cases c4 : b0 ≥ 192
        · have e4 : wrap64 ((b0 : Int) - 192) = (b0 : Int) - 192 := w64 (by omega) (by omega)
          rw [dec2 m b0 b1 b2 b3 c4 (by omega), e4, ← hm]
          exact Ev.pos (by omega) (at2 s pos _ hs hp (by omega) (by omega) b1 hb1)
        · rw [dec0 m b0 b1 b2 b3 (by omega) (by omega)]
          exact Ev.neg (by omega) (Ev.now _)

/-! ### The whole text -/
def badAt (s : ByteArray) (pos : Nat) : Bool := decide ((Utf8.decode s pos).1 = 65533 ∧ (Utf8.decode s pos).2 = 1)
def validFrom (s : ByteArray) : Nat → Nat → Bool
  | 0, _ => true
  | n + 1, pos => if pos < s.size then (if badAt s pos then false else validFrom s n (pos + (Utf8.decode s pos).2)) else true

theorem decode_len (s : ByteArray) (pos : Nat) : (Utf8.decode s pos).2 ≤ 4 := by
  rw [Lib.decode_at]
  unfold Lib.decodeN
  repeat' split
  all_goals simp

theorem spec_loop (s : ByteArray) (hs : s.size ≤ 1048576) (fuel : Nat) : ∀ (pos : Nat) (acc : List Int), s.size ≤ pos + fuel → acc.length ≤ pos →
    Ev (fun k => spec_l01Decode.l0 k s acc (pos : Int)) (if validFrom s fuel pos then (acc ++ impl_Decode.runes s fuel pos, true) else ([], false)) := by
  induction fuel with
  | zero =>
    intro pos acc h1 h2
    rw [validFrom, if_pos rfl, impl_Decode.runes, List.append_nil]
    refine Ev.step (fun k => ?_) (Ev.now _)
    rw [spec_l01Decode.l0, if_neg (by omega)]
  | succ n ih =>
    intro pos acc h1 h2
    rw [validFrom, impl_Decode.runes]
    by_cases hp : pos < s.size
    · have hat := at_step s pos hs hp
      have hw := Lib.width_pos s pos
      have hw4 := decode_len s pos
      rw [if_pos hp, if_pos hp]
      refine Ev.step (f := fun k => (spec_l01At.f k s (pos : Int)).bind fun bt120 => if bt120.2 = 0 then some ([], false) else if acc.length < 17592186044416 then spec_l01Decode.l0 k s (acc ++ [bt120.1]) (wrap64 ((pos : Int) + bt120.2)) else none) (fun k => by rw [spec_l01Decode.l0, if_pos (by omega)]) (Ev.bind hat ?_)
      by_cases hb : badAt s pos = true
      · rw [if_pos hb]
        have hb' := of_decide_eq_true hb
        have e : stepR (Utf8.decode s pos) = (0, 0) := by unfold stepR; rw [if_pos hb']
        rw [e]
        exact Ev.pos rfl (Ev.now _)
      · rw [if_neg hb]
        have hb' : ¬ ((Utf8.decode s pos).1 = 65533 ∧ (Utf8.decode s pos).2 = 1) := fun h => hb (decide_eq_true h)
        have e : stepR (Utf8.decode s pos) = (((Utf8.decode s pos).1 : Int), ((Utf8.decode s pos).2 : Int)) := by unfold stepR; rw [if_neg hb']
        have e5 : wrap64 ((pos : Int) + ((Utf8.decode s pos).2 : Int)) = ((pos + (Utf8.decode s pos).2 : Nat) : Int) := by rw [w64 (by omega) (by omega)]; omega
        rw [e]
        simp only
        rw [e5]
        refine Ev.neg (by omega) (Ev.pos (by omega) ?_)
        have h' := ih (pos + (Utf8.decode s pos).2) (acc ++ [((Utf8.decode s pos).1 : Int)]) (by omega) (by simp; omega)
        rw [List.append_assoc] at h'
        exact h'
    · rw [if_neg hp, if_pos rfl, if_neg hp, List.append_nil]
      refine Ev.step (fun k => ?_) (Ev.now _)
      rw [spec_l01Decode.l0, if_neg (by omega)]

theorem decode_drop (s : ByteArray) (pos : Nat) : Lib.decodeL (s.data.toList.drop pos) = Utf8.decode s pos := by
  unfold Lib.decodeL
  have hsz : (⟨(s.data.toList.drop pos).toArray⟩ : ByteArray).size = s.size - pos := by
    show (s.data.toList.drop pos).toArray.size = _
    rw [List.size_toArray, List.length_drop, data_length]
  have hg : ∀ j, (⟨(s.data.toList.drop pos).toArray⟩ : ByteArray).get! j = s.get! (pos + j) := by
    intro j
    rw [← Lib.getD_get!', ← Lib.getD_get!']
    show (s.data.toList.drop pos).getD j 0 = _
    rw [List.getD_eq_getElem?_getD, List.getD_eq_getElem?_getD, List.getElem?_drop]
  rw [Lib.decode_at, Lib.decode_at, hsz, hg, hg, hg, hg]; rfl

theorem valid_from (s : ByteArray) (fuel : Nat) : ∀ pos : Nat, s.size ≤ pos + fuel → Lib.validD (s.data.toList.drop pos) = validFrom s fuel pos := by
  induction fuel with
  | zero =>
    intro pos h
    rw [List.drop_of_length_le (by rw [data_length]; omega), validFrom]; rfl
  | succ n ih =>
    intro pos h
    rw [validFrom]
    by_cases hp : pos < s.size
    · have hne : s.data.toList.drop pos ≠ [] := by
        intro e
        have := congrArg List.length e
        rw [List.length_drop, data_length] at this
        simp at this; omega
      have hw := Lib.width_pos s pos
      rw [if_pos hp, Lib.validD_step _ hne, decode_drop, List.drop_drop, ih (pos + (Utf8.decode s pos).2) (by omega)]
      unfold badAt
      by_cases hb : (Utf8.decode s pos).1 = 65533 ∧ (Utf8.decode s pos).2 = 1
      · rw [if_pos hb, decide_eq_true hb]; rfl
      · rw [if_neg hb, decide_eq_false hb]; rfl
    · rw [if_neg hp, List.drop_of_length_le (by rw [data_length]; omega)]; rfl

theorem valid_all (s : ByteArray) : Lib.validD s.data.toList = validFrom s s.size 0 := by
  have := valid_from s s.size 0 (by omega)
  rwa [List.drop_zero] at this

/-- What both tell of a text. -/
def decTell (s : ByteArray) : List Int × Int := if (s.size : Int) > 65536 then ([], 2) else if Lib.validD s.data.toList = true then (impl_Decode.runes s s.size 0, 0) else ([], 3)
theorem impl_Decode_eq (s : ByteArray) : impl_Decode.f s = some (decTell s) := by
  unfold impl_Decode.f decTell
  split
  · rfl
  · split <;> rfl
theorem runes_length (s : ByteArray) (fuel : Nat) : ∀ pos, (impl_Decode.runes s fuel pos).length ≤ fuel := by
  induction fuel with
  | zero => intro pos; simp [impl_Decode.runes]
  | succ n ih =>
    intro pos
    rw [impl_Decode.runes]
    split
    · rw [List.length_cons]; have := ih (pos + (Utf8.decode s pos).2); omega
    · simp
theorem decTell_length (s : ByteArray) : (decTell s).1.length ≤ 65536 := by
  unfold decTell
  split
  · simp
  · split
    · have := runes_length s s.size 0; simp only; omega
    · simp
theorem l01Decode_eq (s : ByteArray) (hs : s.size ≤ 1048576) : Ev (fun k => spec_l01Decode.f k s) (if Lib.validD s.data.toList = true then (impl_Decode.runes s s.size 0, true) else ([], false)) := by
  have h := spec_loop s hs s.size 0 [] (by omega) (by simp)
  rw [List.nil_append] at h
  rw [valid_all]
  exact h
theorem spec_Decode_eq (s : ByteArray) : Ev (fun k => spec_Decode.f k s) (decTell s) := by
  unfold spec_Decode.f decTell
  by_cases hb : (s.size : Int) > 65536
  · rw [if_pos hb]; exact Ev.pos hb (Ev.now _)
  · rw [if_neg hb]
    refine Ev.neg hb (Ev.bind (l01Decode_eq s (by omega)) ?_)
    by_cases hv : Lib.validD s.data.toList = true
    · rw [if_pos hv, if_pos hv]; exact Ev.pos rfl (Ev.now _)
    · rw [if_neg hv, if_neg hv]; exact Ev.neg Bool.false_ne_true (Ev.now _)

/-! ### The table of the edits, as both fill it -/
def cellv (a b prev row : List Int) (i j : Nat) : Int :=
  if a.getD i 0 = b.getD j 0 then mn (mn (prev.getD j 0) (wrap64 (prev.getD (j + 1) 0 + 1))) (wrap64 (row.getD j 0 + 1))
  else mn (mn (wrap64 (prev.getD j 0 + 1)) (wrap64 (prev.getD (j + 1) 0 + 1))) (wrap64 (row.getD j 0 + 1))
def rowv (a b prev : List Int) (i : Nat) : Nat → List Int
  | 0 => [((i + 1 : Nat) : Int)]
  | j + 1 => rowv a b prev i j ++ [cellv a b prev (rowv a b prev i j) i j]
def cnt (n : Nat) : List Int := (List.range n).map Int.ofNat
def tabv (a b : List Int) : Nat → List Int
  | 0 => cnt (b.length + 1)
  | i + 1 => rowv a b (tabv a b i) i b.length
theorem rowv_length (a b prev : List Int) (i j : Nat) : (rowv a b prev i j).length = j + 1 := by
  induction j with
  | zero => rfl
  | succ j ih => rw [rowv, List.length_append, ih]; rfl
theorem cnt_length (n : Nat) : (cnt n).length = n := by simp [cnt]
theorem cnt_succ (n : Nat) : cnt (n + 1) = cnt n ++ [(n : Int)] := by simp [cnt, List.range_succ]
theorem tabv_length (a b : List Int) (i : Nat) : (tabv a b i).length = b.length + 1 := by
  cases i with
  | zero => exact cnt_length _
  | succ i => exact rowv_length a b _ i _
theorem wn (i : Nat) (h : i ≤ 100000) : wrap64 ((i : Int) + 1) = ((i + 1 : Nat) : Int) := by rw [w64 (by omega) (by omega)]; omega
theorem wp (i : Nat) (h : i ≤ 100000) : wrap64 (((i + 1 : Nat) : Int) - 1) = (i : Int) := by rw [w64 (by omega) (by omega)]; omega
def pad (xs : List Int) (m : Nat) : List Int := xs ++ List.replicate m 0
theorem pad_len (xs : List Int) (m : Nat) : (pad xs m).length = xs.length + m := by simp [pad]
theorem pad_rd (xs : List Int) (m j : Nat) (h : j < xs.length) : (pad xs m).getD j 0 = xs.getD j 0 := by
  rw [pad, List.getD_eq_getElem?_getD, List.getD_eq_getElem?_getD, List.getElem?_append_left h]
theorem pad_set (xs : List Int) (m : Nat) (v : Int) : (pad xs (m + 1)).set xs.length v = pad (xs ++ [v]) m := by
  unfold pad
  rw [List.set_append_right xs.length v (Nat.le_refl _), Nat.sub_self, List.replicate_succ, List.set_cons_zero, List.append_assoc]; rfl
theorem pad_zero (xs : List Int) : pad xs 0 = xs := by simp [pad]
theorem pad_nil (m : Nat) : pad [] m = List.replicate m 0 := rfl

/-! ### The reference's table -/
theorem s2_loop (a b prev : List Int) (i : Nat) (r : Int) (ha : a.length ≤ 200) (hb : b.length ≤ 200) (hi : i < a.length) (hp : prev.length = b.length + 1)
    (he : Ev (fun k => spec_l05Edits.l1 k a b (rowv a b prev i b.length) ((i + 2 : Nat) : Int)) r) (d : Nat) :
    ∀ j, j + d = b.length → Ev (fun k => spec_l05Edits.l2 k a b prev ((i + 1 : Nat) : Int) (rowv a b prev i j) ((j + 1 : Nat) : Int)) r := by
  induction d with
  | zero =>
    intro j hj
    obtain rfl : j = b.length := by omega
    refine Ev.step (fun k => ?_) he
    rw [spec_l05Edits.l2, if_neg (by omega), wn (i + 1) (by omega)]
  | succ d ih =>
    intro j hj
    have hl := rowv_length a b prev i j
    refine Ev.step (fun k => ?_) (ih (j + 1) (by omega))
    rw [spec_l05Edits.l2, if_pos (by omega), wp j (by omega), wp i (by omega), if_pos (by omega), if_pos (by omega), if_pos (by omega), if_pos (by omega), if_pos (by omega), rd_nat, rd_nat, rd_nat, rd_nat, rd_nat, wn (j + 1) (by omega)]
    rw [rowv, cellv]
    by_cases c : a.getD i 0 = b.getD j 0
    · rw [if_pos c, if_pos (by omega), if_pos (by omega), if_pos (by omega), if_pos (by omega), if_pos c]
    · rw [if_neg c, if_pos (by omega), if_pos (by omega), if_pos (by omega), if_pos (by omega), if_neg c]
theorem s1_loop (a b : List Int) (ha : a.length ≤ 200) (hb : b.length ≤ 200) (d : Nat) :
    ∀ i, i + d = a.length → Ev (fun k => spec_l05Edits.l1 k a b (tabv a b i) ((i + 1 : Nat) : Int)) ((tabv a b a.length).getD b.length 0) := by
  induction d with
  | zero =>
    intro i hi
    obtain rfl : i = a.length := by omega
    have hl := tabv_length a b a.length
    refine Ev.step (fun k => ?_) (Ev.now _)
    rw [spec_l05Edits.l1, if_neg (by omega), if_pos (by omega), if_pos (by omega), rd_nat]
  | succ d ih =>
    intro i hi
    refine Ev.step (fun k => ?_) (s2_loop a b (tabv a b i) i _ ha hb (by omega) (tabv_length a b i) (ih (i + 1) (by omega)) b.length 0 (by omega))
    rw [spec_l05Edits.l1, if_pos (by omega)]; rfl
theorem s0_loop (a b : List Int) (ha : a.length ≤ 200) (hb : b.length ≤ 200) (d : Nat) :
    ∀ i, i + d = b.length + 1 → Ev (fun k => spec_l05Edits.l0 k a b (cnt i) (i : Int)) ((tabv a b a.length).getD b.length 0) := by
  induction d with
  | zero =>
    intro i hi
    obtain rfl : i = b.length + 1 := by omega
    refine Ev.step (fun k => ?_) (s1_loop a b ha hb a.length 0 (by omega))
    rw [spec_l05Edits.l0, if_neg (by omega)]; rfl
  | succ d ih =>
    intro i hi
    have hl := cnt_length i
    refine Ev.step (fun k => ?_) (ih (i + 1) (by omega))
    rw [spec_l05Edits.l0, if_pos (by omega), if_pos (by omega), wn i (by omega), cnt_succ]
theorem spec_edits_eq (a b : List Int) (ha : a.length ≤ 200) (hb : b.length ≤ 200) : Ev (fun k => spec_l05Edits.f k a b) ((tabv a b a.length).getD b.length 0) :=
  s0_loop a b ha hb (b.length + 1) 0 (by omega)

/-! ### The program's table -/
theorem i2_loop (a b prev : List Int) (i : Nat) (r : Int) (ha : a.length ≤ 200) (hb : b.length ≤ 200) (hi : i < a.length) (hp : prev.length = b.length + 1)
    (he : Ev (fun k => impl_edits.l1 k a b (rowv a b prev i b.length) (a.length : Int) ((i + 1 : Nat) : Int)) r) (d : Nat) :
    ∀ j, j + d = b.length → Ev (fun k => impl_edits.l2 k a b prev (i : Int) (pad (rowv a b prev i j) d) (a.length : Int) (i : Int) (b.length : Int) (j : Int)) r := by
  induction d with
  | zero =>
    intro j hj
    obtain rfl : j = b.length := by omega
    refine Ev.step (fun k => ?_) he
    rw [impl_edits.l2, if_neg (by omega), wn i (by omega), pad_zero]
  | succ d ih =>
    intro j hj
    have hl := rowv_length a b prev i j
    have hq := pad_len (rowv a b prev i j) (d + 1)
    refine Ev.step (fun k => ?_) (ih (j + 1) (by omega))
    rw [impl_edits.l2, if_pos (by omega), if_pos (by omega), if_pos (by omega), if_pos (by omega), if_pos (by omega), if_pos (by omega), wn j (by omega), rd_nat, rd_nat, rd_nat, rd_nat, rd_nat, pad_rd _ _ j (by omega), Int.toNat_natCast]
    have hs := pad_set (rowv a b prev i j) d
    rw [hl] at hs
    rw [rowv, cellv]
    by_cases c : a.getD i 0 = b.getD j 0
    · rw [if_pos c, if_pos (by omega), if_pos (by omega), if_pos (by omega), if_pos (by omega), if_pos c, hs]
    · rw [if_neg c, if_pos (by omega), if_pos (by omega), if_pos (by omega), if_pos (by omega), if_neg c, hs]
theorem i1_loop (a b : List Int) (ha : a.length ≤ 200) (hb : b.length ≤ 200) (d : Nat) :
    ∀ i, i + d = a.length → Ev (fun k => impl_edits.l1 k a b (tabv a b i) (a.length : Int) (i : Int)) ((tabv a b a.length).getD b.length 0) := by
  induction d with
  | zero =>
    intro i hi
    obtain rfl : i = a.length := by omega
    have hl := tabv_length a b a.length
    refine Ev.step (fun k => ?_) (Ev.now _)
    rw [impl_edits.l1, if_neg (by omega), if_pos (by omega), if_pos (by omega), rd_nat]
  | succ d ih =>
    intro i hi
    refine Ev.step (fun k => ?_) (i2_loop a b (tabv a b i) i _ ha hb (by omega) (tabv_length a b i) (ih (i + 1) (by omega)) b.length 0 (by omega))
    rw [impl_edits.l1, if_pos (by omega), wn b.length (by omega), if_pos (by omega), Int.toNat_natCast, if_pos (by omega), Option.bind_some, if_pos (by rw [List.length_replicate]; omega), wn i (by omega)]
    rfl
theorem i0_loop (a b : List Int) (ha : a.length ≤ 200) (hb : b.length ≤ 200) (d : Nat) :
    ∀ i, i + d = b.length + 1 → Ev (fun k => impl_edits.l0 k a b (pad (cnt i) d) ((b.length + 1 : Nat) : Int) (i : Int)) ((tabv a b a.length).getD b.length 0) := by
  induction d with
  | zero =>
    intro i hi
    obtain rfl : i = b.length + 1 := by omega
    refine Ev.step (fun k => ?_) (i1_loop a b ha hb a.length 0 (by omega))
    rw [impl_edits.l0, if_neg (by omega), pad_zero]; rfl
  | succ d ih =>
    intro i hi
    have hl := cnt_length i
    have hq := pad_len (cnt i) (d + 1)
    refine Ev.step (fun k => ?_) (ih (i + 1) (by omega))
    have hs := pad_set (cnt i) d
    rw [hl] at hs
    rw [impl_edits.l0, if_pos (by omega), if_pos (by omega), if_pos (by omega), Int.toNat_natCast, hs, wn i (by omega), cnt_succ]
theorem impl_edits_eq (a b : List Int) (ha : a.length ≤ 200) (hb : b.length ≤ 200) : Ev (fun k => impl_edits.f k a b) ((tabv a b a.length).getD b.length 0) := by
  unfold impl_edits.f
  rw [wn b.length (by omega), Int.toNat_natCast]
  refine Ev.pos (by omega) (Ev.pos (by omega) ?_)
  have h := i0_loop a b ha hb (b.length + 1) 0 (by omega)
  refine Ev.congr (fun k => ?_) h
  rw [Option.bind_some, List.length_replicate]; rfl

def editsTell (s t : ByteArray) : Int × Int :=
  if (s.size : Int) > 65536 ∨ (t.size : Int) > 65536 then (0, 2) else if (decTell s).2 = 0 then (if (decTell t).2 = 0 then (if ((decTell s).1.length : Int) > 200 then (0, 12) else if ((decTell t).1.length : Int) > 200 then (0, 12) else ((tabv (decTell s).1 (decTell t).1 (decTell s).1.length).getD (decTell t).1.length 0, 0)) else (0, 3)) else (0, 3)
theorem tell3 (s : ByteArray) (h : ¬ (s.size : Int) > 65536) (h' : ¬ (decTell s).2 = 0) : (decTell s).2 = 3 := by
  unfold decTell at *
  rw [if_neg h] at h' ⊢
  by_cases v : Lib.validD s.data.toList = true
  · rw [if_pos v] at h'; exact absurd rfl h'
  · rw [if_neg v]
theorem spec_j0_eq (s t : ByteArray) (hs : ¬ (s.size : Int) > 65536) (b : Bool) (hb : b = decide ((t.size : Int) > 65536)) : Ev (fun k => spec_Edits.j0 k s t b) (editsTell s t) := by
  refine Ev.step (fun k => by rw [spec_Edits.j0]) ?_
  unfold editsTell
  by_cases ht : (t.size : Int) > 65536
  · rw [if_pos (.inr ht)]; exact Ev.pos (by rw [hb]; exact decide_eq_true ht) (Ev.now _)
  · rw [if_neg (fun h => h.elim hs ht)]
    refine Ev.neg (by rw [hb]; simp; omega) (Ev.bind (spec_Decode_eq s) ?_)
    by_cases h1 : (decTell s).2 = 0
    · rw [if_pos h1]
      refine Ev.pos h1 (Ev.bind (spec_Decode_eq t) ?_)
      by_cases h2 : (decTell t).2 = 0
      · rw [if_pos h2]
        refine Ev.pos h2 ?_
        by_cases h3 : ((decTell s).1.length : Int) > 200
        · rw [if_pos h3]; exact Ev.pos h3 (Ev.now _)
        · rw [if_neg h3]
          refine Ev.neg h3 ?_
          by_cases h4 : ((decTell t).1.length : Int) > 200
          · rw [if_pos h4]; exact Ev.pos h4 (Ev.now _)
          · rw [if_neg h4]
            exact Ev.neg h4 (Ev.bind (spec_edits_eq _ _ (by omega) (by omega)) (Ev.now _))
      · rw [if_neg h2]
        refine Ev.neg h2 ?_
        rw [tell3 t ht h2]; exact Ev.now _
    · rw [if_neg h1]
      refine Ev.neg h1 ?_
      rw [tell3 s hs h1]; exact Ev.now _
theorem impl_j0_eq (s t : ByteArray) (hs : ¬ (s.size : Int) > 65536) (b : Bool) (hb : b = decide ((t.size : Int) > 65536)) : Ev (fun k => impl_Edits.j0 k s t b) (editsTell s t) := by
  refine Ev.step (fun k => by rw [impl_Edits.j0]) ?_
  unfold editsTell
  by_cases ht : (t.size : Int) > 65536
  · rw [if_pos (.inr ht)]; exact Ev.pos (by rw [hb]; exact decide_eq_true ht) (Ev.now _)
  · rw [if_neg (fun h => h.elim hs ht)]
    refine Ev.neg (by rw [hb]; simp; omega) (Ev.bind (Ev.ofEq (impl_Decode_eq s)) (Ev.bind (Ev.ofEq (impl_Decode_eq t)) ?_))
    by_cases h1 : (decTell s).2 = 0
    · rw [if_pos h1]
      refine Ev.pos h1 (Ev.step (fun k => by rw [impl_Edits.j1]) ?_)
      by_cases h2 : (decTell t).2 = 0
      · rw [if_pos h2]
        refine Ev.neg (by simp [h2]) ?_
        by_cases h3 : ((decTell s).1.length : Int) > 200
        · rw [if_pos h3]; exact Ev.pos h3 (Ev.now _)
        · rw [if_neg h3]
          refine Ev.neg h3 ?_
          by_cases h4 : ((decTell t).1.length : Int) > 200
          · rw [if_pos h4]; exact Ev.pos h4 (Ev.now _)
          · rw [if_neg h4]
            exact Ev.neg h4 (Ev.bind (impl_edits_eq _ _ (by omega) (by omega)) (Ev.now _))
      · rw [if_neg h2]
        exact Ev.pos (by simp [h2]) (Ev.now _)
    · rw [if_neg h1]
      refine Ev.neg h1 (Ev.step (fun k => by rw [impl_Edits.j1]) ?_)
      exact Ev.pos rfl (Ev.now _)
theorem spec_Edits_eq (s t : ByteArray) : Ev (fun k => spec_Edits.f k s t) (editsTell s t) := by
  unfold spec_Edits.f
  by_cases hs : (s.size : Int) > 65536
  · refine Ev.pos hs (Ev.step (fun k => by rw [spec_Edits.j0]) (Ev.pos rfl ?_))
    unfold editsTell; rw [if_pos (.inl hs)]; exact Ev.now _
  · exact Ev.neg hs (spec_j0_eq s t hs _ rfl)
theorem impl_Edits_eq (s t : ByteArray) : Ev (fun k => impl_Edits.f k s t) (editsTell s t) := by
  unfold impl_Edits.f
  by_cases hs : (s.size : Int) > 65536
  · refine Ev.pos hs (Ev.step (fun k => by rw [impl_Edits.j0]) (Ev.pos rfl ?_))
    unfold editsTell; rw [if_pos (.inl hs)]; exact Ev.now _
  · exact Ev.neg hs (impl_j0_eq s t hs _ rfl)


/-! ### The edits are a distance -/
def sub1 (a b : List Int) (i j : Nat) : Int := if a.getD i 0 = b.getD j 0 then 0 else 1
def edRow (a b : List Int) (i : Nat) (prev : Nat → Int) : Nat → Int
  | 0 => ((i + 1 : Nat) : Int)
  | j + 1 => mn (mn (prev j + sub1 a b i j) (prev (j + 1) + 1)) (edRow a b i prev j + 1)
def ed (a b : List Int) : Nat → Nat → Int
  | 0 => fun j => (j : Int)
  | i + 1 => edRow a b i (ed a b i)
theorem ed_0 (a b : List Int) (j : Nat) : ed a b 0 j = (j : Int) := rfl
theorem ed_i0 (a b : List Int) (i : Nat) : ed a b i 0 = (i : Int) := by cases i <;> rfl
theorem ed_s (a b : List Int) (i j : Nat) : ed a b (i + 1) (j + 1) = mn (mn (ed a b i j + sub1 a b i j) (ed a b i (j + 1) + 1)) (ed a b (i + 1) j + 1) := rfl
theorem sub1_b (a b : List Int) (i j : Nat) : 0 ≤ sub1 a b i j ∧ sub1 a b i j ≤ 1 := by unfold sub1; split <;> omega
theorem ed_le (a b : List Int) (i j : Nat) : ed a b (i + 1) (j + 1) ≤ ed a b i j + sub1 a b i j ∧ ed a b (i + 1) (j + 1) ≤ ed a b i (j + 1) + 1 ∧ ed a b (i + 1) (j + 1) ≤ ed a b (i + 1) j + 1 := by
  rw [ed_s]; unfold mn
  generalize ed a b i j + sub1 a b i j = x
  generalize ed a b i (j + 1) + 1 = y
  generalize ed a b (i + 1) j + 1 = z
  repeat' split
  all_goals omega
theorem ed_cases (a b : List Int) (i j : Nat) : ed a b (i + 1) (j + 1) = ed a b i j + sub1 a b i j ∨ ed a b (i + 1) (j + 1) = ed a b i (j + 1) + 1 ∨ ed a b (i + 1) (j + 1) = ed a b (i + 1) j + 1 := by
  rw [ed_s]; unfold mn
  generalize ed a b i j + sub1 a b i j = x
  generalize ed a b i (j + 1) + 1 = y
  generalize ed a b (i + 1) j + 1 = z
  repeat' split
  all_goals omega
theorem ed_bounds (a b : List Int) (n : Nat) : ∀ i j, i + j = n → (j : Int) - i ≤ ed a b i j ∧ (i : Int) - j ≤ ed a b i j ∧ ed a b i j ≤ (i : Int) + j := by
  induction n using Nat.strongRecOn with
  | _ n ih =>
    intro i j h
    match i, j with
    | 0, j => rw [ed_0]; omega
    | i + 1, 0 => rw [ed_i0]; omega
    | i + 1, j + 1 =>
      have h1 := ih (i + j) (by omega) i j rfl
      have h2 := ih (i + (j + 1)) (by omega) i (j + 1) rfl
      have h3 := ih (i + 1 + j) (by omega) (i + 1) j rfl
      have hs := sub1_b a b i j
      have hl := ed_le a b i j
      rcases ed_cases a b i j with h | h | h <;> omega
theorem ed_nonneg (a b : List Int) (i j : Nat) : 0 ≤ ed a b i j := by have := ed_bounds a b _ i j rfl; omega
theorem ed_up (a b : List Int) (i j : Nat) : ed a b (i + 1) j ≤ ed a b i j + 1 := by
  cases j with
  | zero => rw [ed_i0, ed_i0]; omega
  | succ j => exact (ed_le a b i j).2.1
theorem ed_right (a b : List Int) (i j : Nat) : ed a b i (j + 1) ≤ ed a b i j + 1 := by
  cases i with
  | zero => rw [ed_0, ed_0]; omega
  | succ i => exact (ed_le a b i j).2.2
theorem sub1_comm (a b : List Int) (i j : Nat) : sub1 a b i j = sub1 b a j i := by
  unfold sub1
  by_cases h : a.getD i 0 = b.getD j 0
  · rw [if_pos h, if_pos h.symm]
  · rw [if_neg h, if_neg (fun e => h e.symm)]
theorem ed_comm (a b : List Int) (n : Nat) : ∀ i j, i + j = n → ed a b i j = ed b a j i := by
  induction n using Nat.strongRecOn with
  | _ n ih =>
    intro i j h
    match i, j with
    | 0, j => rw [ed_0, ed_i0]
    | i + 1, 0 => rw [ed_i0, ed_0]
    | i + 1, j + 1 =>
      have h1 := ih (i + j) (by omega) i j rfl
      have h2 := ih (i + (j + 1)) (by omega) i (j + 1) rfl
      have h3 := ih (i + 1 + j) (by omega) (i + 1) j rfl
      have hs := sub1_comm a b i j
      have l1 := ed_le a b i j
      have l2 := ed_le b a j i
      rcases ed_cases a b i j with c | c | c <;> rcases ed_cases b a j i with d | d | d <;> omega
theorem sub1_tri (a c b : List Int) (i k j : Nat) : sub1 a b i j ≤ sub1 a c i k + sub1 c b k j := by
  have h1 := sub1_b a c i k
  have h2 := sub1_b c b k j
  have h3 := sub1_b a b i j
  unfold sub1 at *
  by_cases e1 : a.getD i 0 = c.getD k 0
  · by_cases e2 : c.getD k 0 = b.getD j 0
    · rw [if_pos (e1.trans e2), if_pos e1, if_pos e2]; omega
    · rw [if_neg e2] at *; omega
  · rw [if_neg e1] at *; omega
theorem ed_tri (a c b : List Int) (n : Nat) : ∀ i k j, i + k + j = n → ed a b i j ≤ ed a c i k + ed c b k j := by
  induction n using Nat.strongRecOn with
  | _ n ih =>
    intro i k j h
    match i, k, j with
    | 0, k, j => have := ed_bounds c b _ k j rfl; rw [ed_0, ed_0]; omega
    | i + 1, k, 0 => have := ed_bounds a c _ (i + 1) k rfl; rw [ed_i0, ed_i0]; omega
    | i + 1, 0, j + 1 => have := ed_bounds a b _ (i + 1) (j + 1) rfl; rw [ed_i0, ed_0]; omega
    | i + 1, k + 1, j + 1 =>
      have l1 := ed_le a b i j
      have st := sub1_tri a c b i k j
      have s1 := sub1_b a c i k
      have s2 := sub1_b c b k j
      rcases ed_cases a c i k with p | p | p
      · rcases ed_cases c b k j with q | q | q
        · have := ih (i + k + j) (by omega) i k j rfl
          omega
        · have h1 := ih (i + k + (j + 1)) (by omega) i k (j + 1) rfl
          omega
        · have h1 := ih (i + 1 + (k + 1) + j) (by omega) (i + 1) (k + 1) j rfl
          omega
      · have h1 := ih (i + (k + 1) + (j + 1)) (by omega) i (k + 1) (j + 1) rfl
        omega
      · rcases ed_cases c b k j with q | q | q
        · have h1 := ih (i + 1 + k + j) (by omega) (i + 1) k j rfl
          omega
        · have h1 := ih (i + 1 + k + (j + 1)) (by omega) (i + 1) k (j + 1) rfl
          omega
        · have h1 := ih (i + 1 + (k + 1) + j) (by omega) (i + 1) (k + 1) j rfl
          omega
theorem ed_zero (a b : List Int) (n : Nat) : ∀ i j, i + j = n → ed a b i j = 0 → i = j ∧ ∀ m, m < i → a.getD m 0 = b.getD m 0 := by
  induction n using Nat.strongRecOn with
  | _ n ih =>
    intro i j h h0
    match i, j with
    | 0, j => rw [ed_0] at h0; exact ⟨by omega, fun m hm => absurd hm (by omega)⟩
    | i + 1, 0 => rw [ed_i0] at h0; omega
    | i + 1, j + 1 =>
      have n1 := ed_nonneg a b i j
      have n2 := ed_nonneg a b i (j + 1)
      have n3 := ed_nonneg a b (i + 1) j
      have hs := sub1_b a b i j
      rcases ed_cases a b i j with c | c | c
      · obtain ⟨g1, g2⟩ := ih (i + j) (by omega) i j rfl (by omega)
        refine ⟨by omega, fun m hm => ?_⟩
        by_cases e : m = i
        · subst e
          have h1 : sub1 a b m j = 0 := by omega
          unfold sub1 at h1
          by_cases e : a.getD m 0 = b.getD j 0
          · rw [e, g1]
          · rw [if_neg e] at h1; omega
        · exact g2 m (by omega)
      · omega
      · omega
theorem ed_same (a : List Int) (i : Nat) : ed a a i i = 0 := by
  induction i with
  | zero => rfl
  | succ i ih =>
    have l := ed_le a a i i
    have n := ed_nonneg a a (i + 1) (i + 1)
    have s : sub1 a a i i = 0 := by unfold sub1; rw [if_pos rfl]
    omega
theorem row_ed (a b prev : List Int) (i : Nat) (hi : i ≤ 200) (hb : b.length ≤ 200) (hp : ∀ j, j ≤ b.length → prev.getD j 0 = ed a b i j) (m : Nat) : m ≤ b.length → ∀ j, j ≤ m → (rowv a b prev i m).getD j 0 = ed a b (i + 1) j := by
  induction m with
  | zero =>
    intro _ j hj
    obtain rfl : j = 0 := by omega
    rfl
  | succ m ih =>
    intro hm j hj
    have ih' := ih (by omega)
    rw [rowv]
    by_cases c : j ≤ m
    · rw [List.getD_eq_getElem?_getD, List.getElem?_append_left (by rw [rowv_length]; omega), ← List.getD_eq_getElem?_getD]
      exact ih' j c
    · obtain rfl : j = m + 1 := by omega
      rw [List.getD_eq_getElem?_getD, List.getElem?_append_right (by rw [rowv_length]; omega), rowv_length, Nat.sub_self]
      show cellv a b prev (rowv a b prev i m) i m = _
      have b1 := ed_bounds a b _ i m rfl
      have b2 := ed_bounds a b _ i (m + 1) rfl
      have b3 := ed_bounds a b _ (i + 1) m rfl
      have n1 := ed_nonneg a b i m
      have n2 := ed_nonneg a b i (m + 1)
      have n3 := ed_nonneg a b (i + 1) m
      unfold cellv
      rw [hp m (by omega), hp (m + 1) (by omega), ih' m (Nat.le_refl _), ed_s, sub1, w64 (x := ed a b i (m + 1) + 1) (by omega) (by omega), w64 (x := ed a b (i + 1) m + 1) (by omega) (by omega), w64 (x := ed a b i m + 1) (by omega) (by omega)]
      by_cases e : a.getD i 0 = b.getD m 0
      · rw [if_pos e, if_pos e, Int.add_zero]
      · rw [if_neg e, if_neg e]
theorem tab_ed (a b : List Int) (hb : b.length ≤ 200) (i : Nat) : i ≤ 200 → ∀ j, j ≤ b.length → (tabv a b i).getD j 0 = ed a b i j := by
  induction i with
  | zero =>
    intro _ j hj
    rw [tabv, ed_0, cnt, List.getD_eq_getElem?_getD, List.getElem?_map, List.getElem?_range (by omega)]
    rfl
  | succ i ih =>
    intro hi j hj
    rw [tabv]
    exact row_ed a b (tabv a b i) i (by omega) hb (ih (by omega)) b.length (Nat.le_refl _) j hj
/-- What both tell of two texts. -/
def dist (a b : List Int) : Int := ed a b a.length b.length
theorem dist_tab (a b : List Int) (ha : a.length ≤ 200) (hb : b.length ≤ 200) : (tabv a b a.length).getD b.length 0 = dist a b := tab_ed a b hb a.length ha b.length (Nat.le_refl _)
theorem dist_comm (a b : List Int) : dist a b = dist b a := ed_comm a b _ _ _ rfl
theorem dist_tri (a c b : List Int) : dist a b ≤ dist a c + dist c b := ed_tri a c b _ _ _ _ rfl
theorem dist_zero (a b : List Int) : dist a b = 0 ↔ a = b := by
  constructor
  · intro h
    obtain ⟨h1, h2⟩ := ed_zero a b _ _ _ rfl h
    exact get_ext h1 (fun j hj => (h2 j (by omega)))
  · rintro rfl
    exact ed_same a a.length
theorem dist_b (a b : List Int) : 0 ≤ dist a b ∧ dist a b ≤ (a.length : Int) + b.length := by
  have h1 := ed_nonneg a b a.length b.length
  have h2 := ed_bounds a b _ a.length b.length rfl
  unfold dist
  omega
/-! ### A text is told by its characters -/
def textOf (l : List Int) : List UInt8 := l.flatMap Lib.encodeRune
theorem runes_text (s : ByteArray) (fuel : Nat) : ∀ pos, s.size ≤ pos + fuel → validFrom s fuel pos = true → textOf (impl_Decode.runes s fuel pos) = s.data.toList.drop pos := by
  have hlen : s.data.toList.length = s.size := data_length s
  induction fuel with
  | zero =>
    intro pos hp _
    rw [impl_Decode.runes, List.drop_eq_nil_of_le (by omega)]; rfl
  | succ n ih =>
    intro pos hp hv
    rw [validFrom] at hv
    rw [impl_Decode.runes]
    by_cases h : pos < s.size
    · rw [if_pos h] at hv ⊢
      by_cases hb : badAt s pos = true
      · rw [if_pos hb] at hv; cases hv
      · rw [if_neg hb] at hv
        have hw := Lib.width_pos s pos
        have hb' : ¬ ((Utf8.decode s pos).1 = 65533 ∧ (Utf8.decode s pos).2 = 1) := fun h => hb (decide_eq_true h)
        have hd := decode_drop s pos
        have hne : s.data.toList.drop pos ≠ [] := by
          intro e
          have := congrArg List.length e
          rw [List.length_drop, hlen] at this
          simp at this; omega
        have he := Lib.encode_decode (s.data.toList.drop pos) hne (by rw [hd]; exact hb')
        rw [hd] at he
        have hr := ih (pos + (Utf8.decode s pos).2) (by omega) hv
        show Lib.encodeRune _ ++ textOf _ = _
        rw [he, hr, ← List.drop_drop, List.take_append_drop]
    · rw [if_neg h, List.drop_eq_nil_of_le (by omega)]; rfl

/-! ### The drawer of drawn inputs: what its bytes and numbers are -/
def BytesOK (s : List Int) : Prop := s.length ≤ 1048576 ∧ ∀ i, i < s.length → 0 ≤ s.getD i 0 ∧ s.getD i 0 ≤ 255
def SeedOK (q : Int) : Prop := 0 ≤ q ∧ q < 2147483648
theorem src_byte (s : List Int) (hs : BytesOK s) (at_ q : Int) (h0 : 0 ≤ at_) (h1 : at_ ≤ 1000000000000) (hq : SeedOK q) :
    ∃ v q', spec_l01Src_byte.f s at_ q = some (v, at_ + 1, q') ∧ 0 ≤ v ∧ v ≤ 255 ∧ SeedOK q' := by
  obtain ⟨q0, q1⟩ := hq
  have e1 : Aside0 (wrap64 (at_ + 1) = at_ + 1) := ⟨w64 (by omega) (by omega)⟩
  have e2 : Aside0 (wrap64 (at_ + 1 - 1) = at_) := ⟨by rw [w64 (by omega) (by omega)]; omega⟩
  have hl := hs.1
  unfold spec_l01Src_byte.f
  rw [e1.out, e2.out]
  by_cases c : at_ + 1 ≤ (s.length : Int)
  · rw [if_pos c, if_pos h0, if_pos (by omega)]
    obtain ⟨n, rfl⟩ : ∃ n : Nat, at_ = n := ⟨at_.toNat, by omega⟩
    obtain ⟨b0, b1⟩ := hs.2 n (by omega)
    rw [rd_nat]
    generalize s.getD n 0 = b at *
    have e3 : Aside0 (wrap64 b = b) := ⟨w64 (by omega) (by omega)⟩
    have e4 : Aside0 (wrap64 (q * 31) = q * 31) := ⟨w64 (by omega) (by omega)⟩
    have e5 : Aside0 (wrap64 (q * 31 + b) = q * 31 + b) := ⟨w64 (by omega) (by omega)⟩
    have e6 : Aside0 (wrap64 (q * 31 + b + 7) = q * 31 + b + 7) := ⟨w64 (by omega) (by omega)⟩
    rw [e3.out, e4.out, e5.out, e6.out, Int.tmod_eq_emod_of_nonneg (by omega)]
    exact ⟨_, _, rfl, b0, b1, by omega, by omega⟩
  · rw [if_neg c]
    by_cases c2 : at_ + 1 > wrap64 (4000 + wrap64 (4 * (s.length : Int)))
    · rw [if_pos c2]; exact ⟨_, _, rfl, by omega, by omega, q0, q1⟩
    · rw [if_neg c2]
      have e4 : Aside0 (wrap64 (q * 1103515245) = q * 1103515245) := ⟨w64 (by omega) (by omega)⟩
      have e5 : Aside0 (wrap64 (q * 1103515245 + 12345) = q * 1103515245 + 12345) := ⟨w64 (by omega) (by omega)⟩
      rw [e4.out, e5.out, Int.tmod_eq_emod_of_nonneg (a := q * 1103515245 + 12345) (by omega)]
      generalize hz : (q * 1103515245 + 12345) % 2147483648 = z
      have z0 : 0 ≤ z := by omega
      have z1 : z < 2147483648 := by omega
      clear hz e4 e5 c2
      have e7 : Aside0 (wrap64 (Int.tdiv z 65536) = z / 65536) := ⟨by rw [Int.tdiv_eq_ediv_of_nonneg z0, w64 (by omega) (by omega)]⟩
      rw [e7.out, Int.tmod_eq_emod_of_nonneg (by omega)]
      exact ⟨_, _, rfl, by omega, by omega, z0, z1⟩
theorem src_next (s : List Int) (hs : BytesOK s) (at_ q n : Int) (h0 : 0 ≤ at_) (h1 : at_ ≤ 100000000000) (hq : SeedOK q) (hn : 1 ≤ n) :
    ∃ v a' q', spec_l01Src_next.f s at_ q n = some (v, a', q') ∧ 0 ≤ v ∧ v < n ∧ at_ ≤ a' ∧ a' ≤ at_ + 3 ∧ SeedOK q' := by
  unfold spec_l01Src_next.f
  by_cases c1 : n ≤ 1
  · rw [if_pos c1]; exact ⟨_, _, _, rfl, by omega, by omega, by omega, by omega, hq⟩
  · rw [if_neg c1]
    obtain ⟨v1, q1, e1, b1, d1, hq1⟩ := src_byte s hs at_ q h0 (by omega) hq
    rw [e1]
    by_cases c2 : n ≤ 256
    · rw [if_pos c2, Option.bind_some, if_neg (by omega)]
      simp only
      rw [Int.tmod_eq_emod_of_nonneg b1]
      exact ⟨_, _, _, rfl, Int.emod_nonneg _ (by omega), Int.emod_lt_of_pos _ (by omega), by omega, by omega, hq1⟩
    · obtain ⟨v2, q2, e2, b2, d2, hq2⟩ := src_byte s hs (at_ + 1) q1 (by omega) (by omega) hq1
      obtain ⟨v3, q3, e3, b3, d3, hq3⟩ := src_byte s hs (at_ + 1 + 1) q2 (by omega) (by omega) hq2
      rw [if_neg c2]
      simp only [Option.bind_some]
      rw [e2]
      simp only [Option.bind_some]
      rw [e3]
      simp only [Option.bind_some]
      rw [if_neg (by omega)]
      have w1 : Aside0 (wrap64 (v1 * 65536) = v1 * 65536) := ⟨w64 (by omega) (by omega)⟩
      have w2 : Aside0 (wrap64 (v2 * 256) = v2 * 256) := ⟨w64 (by omega) (by omega)⟩
      have w3 : Aside0 (wrap64 (v1 * 65536 + v2 * 256) = v1 * 65536 + v2 * 256) := ⟨w64 (by omega) (by omega)⟩
      have w4 : Aside0 (wrap64 (v1 * 65536 + v2 * 256 + v3) = v1 * 65536 + v2 * 256 + v3) := ⟨w64 (by omega) (by omega)⟩
      rw [w1.out, w2.out, w3.out, w4.out, Int.tmod_eq_emod_of_nonneg (by omega)]
      exact ⟨_, _, _, rfl, Int.emod_nonneg _ (by omega), Int.emod_lt_of_pos _ (by omega), by omega, by omega, hq3⟩
theorem src_start (l : List Int) (h : l.length ≤ 1048576) : ∃ q, spec_l01Source.f l = some (l, 0, q) ∧ SeedOK q := by
  unfold spec_l01Source.f
  exact ⟨_, rfl, by omega, by omega⟩

theorem decTell_valid (s : ByteArray) (h : (decTell s).2 = 0) : textOf (decTell s).1 = s.data.toList := by
  unfold decTell at *
  by_cases c : (s.size : Int) > 65536
  · rw [if_pos c] at h; cases h
  · rw [if_neg c] at h ⊢
    by_cases v : Lib.validD s.data.toList = true
    · rw [if_pos v]
      have := runes_text s s.size 0 (by omega) (by rw [← valid_all]; exact v)
      rwa [List.drop_zero] at this
    · rw [if_neg v] at h; cases h
theorem decTell_inj (s t : ByteArray) (hs : (decTell s).2 = 0) (ht : (decTell t).2 = 0) (h : (decTell s).1 = (decTell t).1) : s.toList = t.toList := by
  rw [Lib.toList_data, Lib.toList_data, ← decTell_valid s hs, ← decTell_valid t ht, h]
theorem toList_inj (s t : ByteArray) (h : s.toList = t.toList) : s = t := by
  rw [Lib.toList_data, Lib.toList_data] at h
  obtain ⟨⟨a⟩⟩ := s
  obtain ⟨⟨b⟩⟩ := t
  simp only at h
  rw [h]
theorem editsTell_ok (s t : ByteArray) (h : (editsTell s t).2 = 0) : (decTell s).2 = 0 ∧ (decTell t).2 = 0 ∧ (decTell s).1.length ≤ 200 ∧ (decTell t).1.length ≤ 200 ∧ (editsTell s t).1 = dist (decTell s).1 (decTell t).1 ∧ (editsTell t s) = (dist (decTell s).1 (decTell t).1, 0) := by
  unfold editsTell at h ⊢
  by_cases c : (s.size : Int) > 65536 ∨ (t.size : Int) > 65536
  · rw [if_pos c] at h; cases h
  · have c' : ¬ ((t.size : Int) > 65536 ∨ (s.size : Int) > 65536) := fun h => c h.symm
    rw [if_neg c] at h ⊢
    rw [if_neg c']
    by_cases hs : (decTell s).2 = 0
    · by_cases ht : (decTell t).2 = 0
      · rw [if_pos hs, if_pos ht] at h ⊢
        rw [if_pos ht, if_pos hs]
        by_cases l1 : ((decTell s).1.length : Int) > 200
        · rw [if_pos l1] at h; cases h
        · by_cases l2 : ((decTell t).1.length : Int) > 200
          · rw [if_neg l1, if_pos l2] at h; cases h
          · rw [if_neg l1, if_neg l2]
            rw [if_neg l2, if_neg l1, dist_tab _ _ (by omega) (by omega), dist_tab _ _ (by omega) (by omega), dist_comm (decTell t).1 (decTell s).1]
            exact ⟨hs, ht, by omega, by omega, rfl, rfl⟩
      · rw [if_pos hs, if_neg ht] at h; cases h
    · rw [if_neg hs] at h; cases h
theorem src_chance (s : List Int) (hs : BytesOK s) (at_ q n : Int) (h0 : 0 ≤ at_) (h1 : at_ ≤ 100000000000) (hq : SeedOK q) (hn : 1 ≤ n) :
    ∃ b a' q', spec_l01Src_chance.f s at_ q n = some (b, a', q') ∧ at_ ≤ a' ∧ a' ≤ at_ + 3 ∧ SeedOK q' := by
  obtain ⟨v, a', q', e, b0, b1, b2, b3, hq'⟩ := src_next s hs at_ q n h0 h1 hq hn
  unfold spec_l01Src_chance.f
  rw [e, Option.bind_some]
  exact ⟨_, _, _, rfl, b2, b3, hq'⟩
theorem strOfNums_size (l : List Int) : (strOfNums l).size = l.length := by simp [strOfNums, ByteArray.size]
theorem spoil_ex (s : List Int) (hs : BytesOK s) (at_ q : Int) (h0 : 0 ≤ at_) (h1 : at_ ≤ 1000000000) (hq : SeedOK q) (t : ByteArray) (ht : t.size ≤ 1000000) :
    ∃ u a' q', spec_l01Src_spoil.f s at_ q t = some (u, a', q') ∧ at_ ≤ a' ∧ a' ≤ at_ + 10 ∧ SeedOK q' := by
  obtain ⟨v1, a1, q1, e1, b1, b1', c1, c1', hq1⟩ := src_next s hs at_ q 3 h0 (by omega) hq (by omega)
  unfold spec_l01Src_spoil.f
  rw [if_pos (by omega), e1, Option.bind_some]
  simp only
  by_cases k0 : v1 = 0
  · rw [if_pos k0]
    obtain ⟨v2, q2, e2, _, _, hq2⟩ := src_byte s hs a1 q1 (by omega) (by omega) hq1
    rw [e2, Option.bind_some]
    exact ⟨_, _, _, rfl, by simp only; omega, by simp only; omega, hq2⟩
  · rw [if_neg k0]
    by_cases k1 : v1 = 1
    · rw [if_pos k1]
      by_cases hp : (0 : Int) < (t.size : Int)
      · rw [if_pos hp]
        obtain ⟨v2, a2, q2, e2, b2, b2', c2, c2', hq2⟩ := src_next s hs a1 q1 (t.size : Int) (by omega) (by omega) hq1 (by omega)
        rw [e2, Option.bind_some]
        simp only
        rw [if_pos b2, if_pos (by omega)]
        exact ⟨_, _, _, rfl, by omega, by omega, hq2⟩
      · rw [if_neg hp]
        exact ⟨_, _, _, rfl, by omega, by omega, hq1⟩
    · rw [if_neg k1]
      by_cases hp : (0 : Int) < (t.size : Int)
      · rw [if_pos hp]
        obtain ⟨v2, a2, q2, e2, b2, b2', c2, c2', hq2⟩ := src_next s hs a1 q1 (t.size : Int) (by omega) (by omega) hq1 (by omega)
        obtain ⟨v3, q3, e3, _, _, hq3⟩ := src_byte s hs a2 q2 (by omega) (by omega) hq2
        rw [e2, Option.bind_some]
        simp only
        rw [e3, Option.bind_some]
        simp only
        rw [if_pos b2, if_pos b2']
        exact ⟨_, _, _, rfl, by omega, by omega, hq3⟩
      · rw [if_neg hp]
        exact ⟨_, _, _, rfl, by omega, by omega, hq1⟩
theorem text_loop (s : List Int) (hs : BytesOK s) (c : Nat) : ∀ (x : ByteArray) (a q : Int), c ≤ 10 → x.size + 3 * c ≤ 1000 → 0 ≤ a → a + 3 * (c : Int) ≤ 1000000 → SeedOK q → ∃ (t : ByteArray) (a' q' : Int), Ev (fun k => spec_l05DrawText.l0 k x (c : Int) s a q) (t, a', q') ∧ t.size ≤ 1000 ∧ a ≤ a' ∧ a' ≤ a + 3 * (c : Int) ∧ SeedOK q' := by
  induction c with
  | zero =>
    intro x a q _ hx ha hac hq
    exact ⟨x, a, q, Ev.step (fun k => by rw [spec_l05DrawText.l0, if_neg (by omega)]) (Ev.now _), by omega, by omega, by omega, hq⟩
  | succ c ih =>
    intro x a q hc hx ha hac hq
    generalize hy : ([(⟨#[97]⟩ : ByteArray), (⟨#[98]⟩ : ByteArray), (⟨#[114, 117, 110]⟩ : ByteArray), (⟨#[195, 169]⟩ : ByteArray), (⟨#[99]⟩ : ByteArray), (⟨#[42]⟩ : ByteArray), (⟨#[92]⟩ : ByteArray)] : List ByteArray) = y
    have hz : ∀ x ∈ y, x.size ≤ 3 := by rw [← hy]; decide
    have hl : y.length = 7 := by rw [← hy]; rfl
    obtain ⟨v1, a1, q1, e1, b1, b1', c1, c1', hq1⟩ := src_next s hs a q 7 ha (by omega) hq (by omega)
    have hw : (rdOf ByteArray.empty y v1).size ≤ 3 := by
      obtain ⟨i, rfl⟩ : ∃ i : Nat, v1 = i := ⟨v1.toNat, by omega⟩
      rw [rdOf, Int.toNat_natCast, List.getD_eq_getElem?_getD, List.getElem?_eq_getElem (show i < y.length by omega)]
      exact hz _ (List.getElem_mem _)
    obtain ⟨t, a', q', hr, ht, g1, g2, hq'⟩ := ih (x ++ rdOf ByteArray.empty y v1) a1 q1 (by omega) (by rw [ByteArray.size_append]; omega) (by omega) (by omega) hq1
    have ew : wrap64 (((c + 1 : Nat) : Int) - 1) = (c : Int) := by rw [w64 (by omega) (by omega)]; omega
    refine ⟨t, a', q', Ev.step (fun k => by rw [spec_l05DrawText.l0, ew, hy]) ?_, ht, by omega, by omega, hq'⟩
    refine Ev.pos (by omega) ?_
    refine Ev.bind (Ev.now _) ?_
    refine Ev.bind (Ev.ofEq e1) ?_
    exact Ev.pos (by simp only; omega) (Ev.pos (by simp only; omega) (Ev.pos (by simp only; omega) hr))
theorem text_ex (s : List Int) (hs : BytesOK s) (a q : Int) (ha : 0 ≤ a) (ha' : a ≤ 1000) (hq : SeedOK q) : ∃ (t : ByteArray) (a' q' : Int), Ev (fun k => spec_l05DrawText.f k s a q) (t, a', q') ∧ t.size ≤ 1000 ∧ a ≤ a' ∧ a' ≤ a + 100 ∧ SeedOK q' := by
  obtain ⟨v1, a1, q1, e1, b1, b1', c1, c1', hq1⟩ := src_next s hs a q 6 ha (by omega) hq (by omega)
  obtain ⟨n, rfl⟩ : ∃ n : Nat, v1 = n := ⟨v1.toNat, by omega⟩
  obtain ⟨t, a', q', hr, ht, g1, g2, hq'⟩ := text_loop s hs n (⟨#[]⟩ : ByteArray) a1 q1 (by omega) (by show 0 + 3 * n ≤ 1000; omega) (by omega) (by omega) hq1
  refine ⟨t, a', q', ?_, ht, by omega, by omega, hq'⟩
  unfold spec_l05DrawText.f
  exact Ev.bind (Ev.ofEq e1) hr
theorem rep_loop (t : ByteArray) (ht : t.size = 1) (n : Nat) (hn : n ≤ 1000000) (d : Nat) : ∀ (i : Nat) (x : List Int), i + d = n → x.length = i → ∃ r : ByteArray, Ev (fun k => spec_l01Repeat.l0 k t (n : Int) x (i : Int)) r := by
  induction d with
  | zero =>
    intro i x hi hx
    exact ⟨_, Ev.step (fun k => by rw [spec_l01Repeat.l0, if_neg (by omega)]) (Ev.now _)⟩
  | succ d ih =>
    intro i x hi hx
    obtain ⟨r, hr⟩ := ih (i + 1) (x ++ bytesOf t) (by omega) (by rw [List.length_append, bytesOf_length]; omega)
    have e1 : wrap64 ((i : Int) + 1) = ((i + 1 : Nat) : Int) := by rw [w64 (by omega) (by omega)]; omega
    exact ⟨r, Ev.step (fun k => by rw [spec_l01Repeat.l0, if_pos (by omega), if_pos (by omega), e1]) hr⟩
theorem rep_ex (n : Int) (h0 : 0 ≤ n) (h1 : n ≤ 1000000) : ∃ r, Ev (fun k => spec_l01Repeat.f k (⟨#[101]⟩ : ByteArray) n) r := by
  obtain ⟨m, rfl⟩ : ∃ m : Nat, n = m := ⟨n.toNat, by omega⟩
  exact rep_loop (⟨#[101]⟩ : ByteArray) rfl m (by omega) m 0 [] (by omega) rfl
theorem draw_ex (l : List Int) (hs : BytesOK l) : ∃ (s t : ByteArray), Ev (fun k => spec_DrawEdits.f k l) (s, t) := by
  obtain ⟨q0, e0, hq0⟩ := src_start l hs.1
  obtain ⟨t1, a1, q1, h1, z1, g1, g1', hq1⟩ := text_ex l hs 0 q0 (by omega) (by omega) hq0
  obtain ⟨t2, a2, q2, h2, z2, g2, g2', hq2⟩ := text_ex l hs a1 q1 (by omega) (by omega) hq1
  obtain ⟨v3, a3, q3, e3, b3, b3', c3, c3', hq3⟩ := src_next l hs a2 q2 10 (by omega) (by omega) hq2 (by omega)
  have so : ∀ r, Ev (fun k => if v3 = 0 then ((spec_l01Src_spoil.f l a3 q3 t1).bind fun bt244 => (some (t1, bt244.1))) else (if v3 = 1 then ((spec_l01Src_next.f l a3 q3 2).bind fun bt247 => ((spec_l01Repeat.f k (⟨#[101]⟩ : ByteArray) (wrap64 (200 + bt247.1))).bind fun t250 => (some (t250, t2)))) else (if v3 = 2 then ((spec_l01Src_spoil.f l a3 q3 (⟨#[195, 169]⟩ : ByteArray)).bind fun bt251 => ((spec_l01Src_chance.f l bt251.2.1 bt251.2.2 3).bind fun bt254 => (if bt254.1 = true then ((spec_l01Src_next.f l bt254.2.1 bt254.2.2 2).bind fun bt257 => ((spec_l01Repeat.f k (⟨#[101]⟩ : ByteArray) (wrap64 (65536 + bt257.1))).bind fun t260 => (some (bt251.1, t260)))) else (some (bt251.1, t2))))) else (some (t1, t2))))) r → Ev (fun k => spec_DrawEdits.f k l) r := by
    intro r h
    unfold spec_DrawEdits.f
    refine Ev.bind (Ev.ofEq e0) ?_
    refine Ev.bind h1 ?_
    refine Ev.bind h2 ?_
    refine Ev.bind (Ev.ofEq e3) ?_
    exact h
  by_cases k0 : v3 = 0
  · obtain ⟨u, a4, q4, e4, _⟩ := spoil_ex l hs a3 q3 (by omega) (by omega) hq3 t1 (by omega)
    exact ⟨t1, u, so _ (Ev.pos k0 (Ev.bind (Ev.ofEq e4) (Ev.now _)))⟩
  · by_cases k1 : v3 = 1
    · obtain ⟨v4, a4, q4, e4, b4, b4', _⟩ := src_next l hs a3 q3 2 (by omega) (by omega) hq3 (by omega)
      have ew : wrap64 (200 + v4) = 200 + v4 := w64 (by omega) (by omega)
      obtain ⟨u, hu⟩ := rep_ex (200 + v4) (by omega) (by omega)
      refine ⟨u, t2, so _ (Ev.neg k0 (Ev.pos k1 (Ev.bind (Ev.ofEq e4) ?_)))⟩
      simp only
      rw [ew]
      exact Ev.bind hu (Ev.now _)
    · by_cases k2 : v3 = 2
      · obtain ⟨u, a4, q4, e4, c4, c4', hq4⟩ := spoil_ex l hs a3 q3 (by omega) (by omega) hq3 (⟨#[195, 169]⟩ : ByteArray) (by show 2 ≤ 1000000; omega)
        obtain ⟨b, a5, q5, e5, c5, c5', hq5⟩ := src_chance l hs a4 q4 3 (by omega) (by omega) hq4 (by omega)
        cases b with
        | true =>
          obtain ⟨v6, a6, q6, e6, b6, b6', _⟩ := src_next l hs a5 q5 2 (by omega) (by omega) hq5 (by omega)
          have ew : wrap64 (65536 + v6) = 65536 + v6 := w64 (by omega) (by omega)
          obtain ⟨w, hw⟩ := rep_ex (65536 + v6) (by omega) (by omega)
          refine ⟨u, w, so _ (Ev.neg k0 (Ev.neg k1 (Ev.pos k2 (Ev.bind (Ev.ofEq e4) (Ev.bind (Ev.ofEq e5) (Ev.pos rfl (Ev.bind (Ev.ofEq e6) ?_)))))))⟩
          simp only
          rw [ew]
          exact Ev.bind hw (Ev.now _)
        | false =>
          exact ⟨u, t2, so _ (Ev.neg k0 (Ev.neg k1 (Ev.pos k2 (Ev.bind (Ev.ofEq e4) (Ev.bind (Ev.ofEq e5) (Ev.neg Bool.false_ne_true (Ev.now _)))))))⟩
      · exact ⟨t1, t2, so _ (Ev.neg k0 (Ev.neg k1 (Ev.neg k2 (Ev.now _))))⟩
theorem bytesOK_of (l : List Int) (h : ¬ (l.length : Int) > 1048576) (hb : ∀ y0 ∈ l, (Lit.int .u8 y0).wf = true) : BytesOK l := ⟨by omega, fun i hi => by
  have e : l.getD i 0 = l[i] := by simp [List.getD_eq_getElem?_getD, List.getElem?_eq_getElem hi]
  rw [e]; exact wf8 (hb _ (List.getElem_mem hi))⟩
theorem FnDistance (l m : List Int) (hl : l.length ≤ maxLen ∧ ∀ y0 ∈ l, (Lit.int .u8 y0).wf = true) (hm : m.length ≤ maxLen ∧ ∀ y0 ∈ m, (Lit.int .u8 y0).wf = true) : ∃ k, laws_FnDistance.f k l m = some true := by
  refine Ev.rounds (g := fun k => laws_FnDistance.f k l m) ?_
  unfold laws_FnDistance.f
  have big : Ev (fun k => laws_FnDistance.j0 k l m true) true := Ev.step (fun k => by rw [laws_FnDistance.j0]) (Ev.pos rfl (Ev.now _))
  by_cases h : (l.length : Int) > 1048576
  · exact Ev.pos h big
  · refine Ev.neg h ?_
    by_cases h' : (m.length : Int) > 1048576
    · rw [decide_eq_true h']; exact big
    · rw [decide_eq_false h']
      obtain ⟨a, b, hd1⟩ := draw_ex l (bytesOK_of l h hl.2)
      obtain ⟨c, _, hd2⟩ := draw_ex m (bytesOK_of m h' hm.2)
      refine Ev.step (fun k => by rw [laws_FnDistance.j0]) ?_
      refine Ev.neg Bool.false_ne_true ?_
      refine Ev.bind hd1 ?_
      refine Ev.bind hd2 ?_
      refine Ev.bind (impl_Edits_eq a b) ?_
      refine Ev.bind (spec_Edits_eq a b) ?_
      refine Ev.pos rfl ?_
      refine Ev.step (fun k => by rw [laws_FnDistance.j1]) ?_
      refine Ev.neg (by simp) ?_
      refine Ev.bind (impl_Edits_eq b a) ?_
      refine Ev.bind (impl_Edits_eq a c) ?_
      refine Ev.bind (impl_Edits_eq c b) ?_
      refine Ev.bind (spec_Edits_eq a c) ?_
      refine Ev.bind (spec_Edits_eq c b) ?_
      refine Ev.pos rfl ?_
      refine Ev.step (fun k => by rw [laws_FnDistance.j2]) ?_
      refine Ev.neg (by simp) ?_
      by_cases o1 : (editsTell a b).2 = 0
      · refine Ev.pos o1 ?_
        by_cases o2 : (editsTell a c).2 = 0
        · refine Ev.pos o2 ?_
          by_cases o3 : (editsTell c b).2 = 0
          · refine Ev.pos o3 ?_
            obtain ⟨d1, d2, d3, d4, d5, d6⟩ := editsTell_ok a b o1
            obtain ⟨e1, e2, e3, e4, e5, e6⟩ := editsTell_ok a c o2
            obtain ⟨f1, f2, f3, f4, f5, f6⟩ := editsTell_ok c b o3
            rw [d5, d6, e5, f5]
            have t1 := dist_tri (decTell a).1 (decTell c).1 (decTell b).1
            have t2 := dist_b (decTell a).1 (decTell c).1
            have t3 := dist_b (decTell c).1 (decTell b).1
            have ew : wrap64 (dist (decTell a).1 (decTell c).1 + dist (decTell c).1 (decTell b).1) = dist (decTell a).1 (decTell c).1 + dist (decTell c).1 (decTell b).1 := w64 (by omega) (by omega)
            have ez : (dist (decTell a).1 (decTell b).1 == 0) = (a.toList == b.toList) := by
              by_cases g : a.toList = b.toList
              · have g' := toList_inj a b g
                subst g'
                rw [(dist_zero _ _).2 rfl, beq_self_eq_true, beq_self_eq_true]
              · have g1 : ¬ dist (decTell a).1 (decTell b).1 = 0 := fun z => g (decTell_inj a b d1 d2 ((dist_zero _ _).1 z))
                rw [beq_eq_false_iff_ne.2 g, beq_eq_false_iff_ne.2 g1]
            refine Ev.pos rfl ?_
            refine Ev.pos rfl ?_
            refine Ev.pos (by rw [ez, beq_self_eq_true]) ?_
            rw [ew, decide_eq_true t1]
            exact Ev.now _
          · exact Ev.neg o3 (Ev.now _)
        · exact Ev.neg o2 (Ev.now _)
      · exact Ev.neg o1 (Ev.now _)

end Go.Proofs.YtcokeankiedfcaaDoor.Pure
