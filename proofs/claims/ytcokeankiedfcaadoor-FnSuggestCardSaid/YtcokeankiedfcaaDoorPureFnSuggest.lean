/- Whatever the bytes that draw it, what the program suggests is of the code that the document wants, in order, near, and leaves out nothing nearer: the law answers true. No condition. -/
import Derived.Test.YtcokeankiedfcaaDoorXFnSuggestx12
import Derived.Test.YtcokeankiedfcaaDoorKit
import Derived.Lib.ItoaNum
import Derived.Lib.Bytes
import Derived.Test.YtcokeankiedfcaaDoorWfFnSuggest
set_option linter.unusedSimpArgs false
set_option linter.unusedVariables false
namespace Go.Proofs.YtcokeankiedfcaaDoor.Pure
open Go.RowKit Go.Proofs.YtcokeankiedfcaaDoor.XFnSuggest Go.Proofs.YtcokeankiedfcaaDoorW.PrintWords Go.Proofs.YtcokeankiedfcaaDoorW.PrintLast Go.Proofs.YtcokeankiedfcaaDoorW.PrintMore Go.Proofs.YtcokeankiedfcaaDoor.Kit

theorem Ev.steps {α : Type} {g f : Nat → Option α} {r : α} (c : Nat) (h : ∀ k, g (k + c) = f k) (k : Ev f r) : Ev g r := by
  obtain ⟨K, hK⟩ := k
  refine ⟨K + c, fun n hn => ?_⟩
  have := h (n - c)
  rw [Nat.sub_add_cancel (by omega)] at this
  rw [this]; exact hK _ (by omega)

theorem Ev.pos {α : Type} {c : Prop} [Decidable c] {f g : Nat → Option α} {r : α} (h : c) (k : Ev f r) : Ev (fun n => if c then f n else g n) r := Ev.congr (fun n => if_pos h) k
theorem Ev.neg {α : Type} {c : Prop} [Decidable c] {f g : Nat → Option α} {r : α} (h : ¬ c) (k : Ev g r) : Ev (fun n => if c then f n else g n) r := Ev.congr (fun n => if_neg h) k
theorem Ev.ofEq {α : Type} {x : Option α} {r : α} (h : x = some r) : Ev (fun _ => x) r := ⟨0, fun _ _ => h⟩
theorem Ev.from {α : Type} {g : Nat → Option α} {r : α} (K : Nat) (h : ∀ k, K < k → g k = some r) : Ev g r := ⟨K + 1, fun k hk => h k (by omega)⟩

def eb (a : Int) : List Int := if a < 128 then [a] else if a < 2048 then [192 + a / 64, 128 + a % 64] else if a < 65536 then [224 + a / 4096, 128 + a / 64 % 64, 128 + a % 64] else [240 + a / 262144, 128 + a / 4096 % 64, 128 + a / 64 % 64, 128 + a % 64]
def chOK (a : Int) : Bool := decide (0 ≤ a ∧ a ≤ 1114111 ∧ (a < 55296 ∨ 57343 < a))

theorem chOK_iff (a : Int) : chOK a = true ↔ 0 ≤ a ∧ a ≤ 1114111 ∧ (a < 55296 ∨ 57343 < a) := by simp [chOK]

theorem eb_length (a : Int) : 1 ≤ (eb a).length ∧ (eb a).length ≤ 4 := by
  unfold eb; (repeat' split) <;> simp

theorem charOK_eq (a : Int) : spec_l01CharOK.f a = some (chOK a) := by
  unfold spec_l01CharOK.f chOK
  (repeat' split) <;> (congr 1; rw [Bool.eq_iff_iff]; simp; try omega)

theorem bytes_eq (a : Int) (h : chOK a = true) : spec_l01Bytes.f a = some (eb a) := by
  obtain ⟨h0, h1, _⟩ := (chOK_iff a).1 h
  unfold spec_l01Bytes.f eb
  simp only [Int.tdiv_eq_ediv_of_nonneg h0, Int.tmod_eq_emod_of_nonneg h0]
  have d1 : wrap64 (a / 64) = a / 64 := w64 (by omega) (by omega)
  have d2 : wrap64 (a / 4096) = a / 4096 := w64 (by omega) (by omega)
  have d3 : wrap64 (a / 262144) = a / 262144 := w64 (by omega) (by omega)
  rw [d1, d2, d3]
  have m1 : Int.tmod (a / 64) 64 = a / 64 % 64 := Int.tmod_eq_emod_of_nonneg (by omega)
  have m2 : Int.tmod (a / 4096) 64 = a / 4096 % 64 := Int.tmod_eq_emod_of_nonneg (by omega)
  rw [m1, m2]
  have b0 : wrap64 (128 + a % 64) % 256 = 128 + a % 64 := by rw [w64 (by omega) (by omega)]; omega
  have b1 : wrap64 (128 + a / 64 % 64) % 256 = 128 + a / 64 % 64 := by rw [w64 (by omega) (by omega)]; omega
  have b2 : wrap64 (128 + a / 4096 % 64) % 256 = 128 + a / 4096 % 64 := by rw [w64 (by omega) (by omega)]; omega
  rw [b0, b1, b2]
  by_cases c1 : a < 128
  · rw [if_pos c1, if_pos c1, Int.emod_eq_of_lt h0 (by omega)]
  · rw [if_neg c1, if_neg c1]
    by_cases c2 : a < 2048
    · rw [if_pos c2, if_pos c2, w64 (x := 192 + a / 64) (by omega) (by omega), Int.emod_eq_of_lt (a := 192 + a / 64) (by omega) (by omega)]
    · rw [if_neg c2, if_neg c2]
      by_cases c3 : a < 65536
      · rw [if_pos c3, if_pos c3, w64 (x := 224 + a / 4096) (by omega) (by omega), Int.emod_eq_of_lt (a := 224 + a / 4096) (by omega) (by omega)]
      · rw [if_neg c3, if_neg c3, w64 (x := 240 + a / 262144) (by omega) (by omega), Int.emod_eq_of_lt (a := 240 + a / 262144) (by omega) (by omega)]


theorem bt_get (s : ByteArray) (i : Nat) : bt s (i : Int) = ((s.get! i).toNat : Int) := by
  have h := Lib.getD_get!' s i
  unfold bt
  rw [Int.toNat_natCast]
  by_cases c : i < s.size
  · rw [dif_pos c, ← h, List.getD_eq_getElem?_getD, List.getElem?_eq_getElem (by rw [data_length]; exact c)]; rfl
  · rw [dif_neg c, ← h, List.getD_eq_getElem?_getD, List.getElem?_eq_none (by rw [data_length]; omega)]; rfl

def stepR (d : Nat × Nat) : Int × Int := if d.1 = 65533 ∧ d.2 = 1 then (0, 0) else ((d.1 : Int), (d.2 : Int))
def finR (v n : Int) : Int × Int := if chOK v = true ∧ ((eb v).length : Int) = n then (v, n) else (0, 0)

theorem l0_end (s : ByteArray) (pos n v : Int) (k : Nat) : spec_l01At.l0 (k + 1) s pos n v n = some (finR v n) := by
  rw [spec_l01At.l0, if_neg (by omega), charOK_eq, Option.bind_some, finR]
  by_cases c : chOK v = true
  · rw [if_pos c, bytes_eq v c, Option.bind_some]
    by_cases c2 : ((eb v).length : Int) = n
    · rw [if_pos c2, if_pos ⟨c, c2⟩]
    · rw [if_neg c2, if_neg (fun h => c2 h.2)]
  · rw [if_neg c, if_neg (fun h => c h.1)]

theorem l0_step (s : ByteArray) (pos i n : Nat) (v : Int) (k : Nat) (hs : s.size ≤ 1048576) (hi : i < n) (hin : pos + i < s.size) (h0 : 0 ≤ v) (h1 : v ≤ 100000000) (b : Nat) (hb : (s.get! (pos + i)).toNat = b) :
    spec_l01At.l0 (k + 1) s (pos : Int) (n : Int) v (i : Int) = if b / 64 = 2 then spec_l01At.l0 k s (pos : Int) (n : Int) (v * 64 + ((b % 64 : Nat) : Int)) ((i + 1 : Nat) : Int) else some (0, 0) := by
  have hlt : b < 256 := by rw [← hb]; exact UInt8.toNat_lt _
  have e1 : Aside0 (wrap64 ((pos : Int) + (i : Int)) = ((pos + i : Nat) : Int)) := ⟨by rw [w64 (by omega) (by omega)]; omega⟩
  have e2 : Aside0 (wrap64 ((i : Int) + 1) = ((i + 1 : Nat) : Int)) := ⟨by rw [w64 (by omega) (by omega)]; omega⟩
  have e3 : Aside0 (wrap64 (b : Int) = (b : Int)) := ⟨w64 (by omega) (by omega)⟩
  rw [spec_l01At.l0, if_pos (by omega), e1.out, if_pos (by omega), if_pos (by omega), bt_get, hb, e3.out, e2.out]
  by_cases c1 : (b : Int) < 128
  · rw [if_pos c1, if_neg (by omega)]
  · rw [if_neg c1]
    by_cases c2 : (b : Int) > 191
    · rw [if_pos c2, if_neg (by omega)]
    · have e4 : wrap64 (wrap64 (wrap64 (v * 64) + (b : Int)) - 128) = v * 64 + ((b % 64 : Nat) : Int) := by
        rw [w64 (x := v * 64) (by omega) (by omega), w64 (x := v * 64 + (b : Int)) (by omega) (by omega), w64 (by omega) (by omega)]; omega
      rw [if_neg c2, if_pos (by omega), e4]

theorem at2 (s : ByteArray) (pos : Nat) (v : Int) (hs : s.size ≤ 1048576) (hp : pos < s.size) (h0 : 0 ≤ v) (h1 : v ≤ 1000) (b1 : Nat) (hb1 : (s.get! (pos + 1)).toNat = b1) :
    Ev (fun k => spec_l01At.j0 k s (pos : Int) 2 v) (if 1 < s.size - pos ∧ b1 / 64 = 2 then finR (v * 64 + ((b1 % 64 : Nat) : Int)) 2 else (0, 0)) := by
  have e1 : Aside0 (wrap64 ((pos : Int) + 2) = ((pos + 2 : Nat) : Int)) := ⟨by rw [w64 (by omega) (by omega)]; omega⟩
  by_cases c : 1 < s.size - pos
  · have hst := fun k => l0_step s pos 1 2 v k hs (by omega) (by omega) h0 (by omega) b1 hb1
    by_cases d : b1 / 64 = 2
    · rw [if_pos ⟨c, d⟩]
      refine Ev.steps 3 (fun k => ?_) (Ev.now _)
      have h := hst (k + 1)
      rw [if_pos d] at h
      rw [spec_l01At.j0, e1.out, if_neg (by omega)]
      exact h.trans (l0_end s _ _ _ _)
    · rw [if_neg (fun h => d h.2)]
      refine Ev.steps 2 (fun k => ?_) (Ev.now _)
      have h := hst k
      rw [if_neg d] at h
      rw [spec_l01At.j0, e1.out, if_neg (by omega)]
      exact h
  · rw [if_neg (fun h => c h.1)]
    refine Ev.step (fun k => ?_) (Ev.now _)
    rw [spec_l01At.j0, e1.out, if_pos (by omega)]

theorem at3 (s : ByteArray) (pos : Nat) (v : Int) (hs : s.size ≤ 1048576) (hp : pos < s.size) (h0 : 0 ≤ v) (h1 : v ≤ 1000) (b1 b2 : Nat) (hb1 : (s.get! (pos + 1)).toNat = b1) (hb2 : (s.get! (pos + 2)).toNat = b2) :
    Ev (fun k => spec_l01At.j0 k s (pos : Int) 3 v) (if 2 < s.size - pos ∧ b1 / 64 = 2 ∧ b2 / 64 = 2 then finR ((v * 64 + ((b1 % 64 : Nat) : Int)) * 64 + ((b2 % 64 : Nat) : Int)) 3 else (0, 0)) := by
  have e1 : Aside0 (wrap64 ((pos : Int) + 3) = ((pos + 3 : Nat) : Int)) := ⟨by rw [w64 (by omega) (by omega)]; omega⟩
  by_cases c : 2 < s.size - pos
  · have hst := fun k => l0_step s pos 1 3 v k hs (by omega) (by omega) h0 (by omega) b1 hb1
    by_cases d : b1 / 64 = 2
    · have hst2 := fun k => l0_step s pos 2 3 (v * 64 + ((b1 % 64 : Nat) : Int)) k hs (by omega) (by omega) (by omega) (by omega) b2 hb2
      by_cases d2 : b2 / 64 = 2
      · rw [if_pos ⟨c, d, d2⟩]
        refine Ev.steps 4 (fun k => ?_) (Ev.now _)
        have h := hst (k + 2)
        rw [if_pos d] at h
        have h2 := hst2 (k + 1)
        rw [if_pos d2] at h2
        rw [spec_l01At.j0, e1.out, if_neg (by omega)]
        exact h.trans (h2.trans (l0_end s _ _ _ _))
      · rw [if_neg (fun h => d2 h.2.2)]
        refine Ev.steps 3 (fun k => ?_) (Ev.now _)
        have h := hst (k + 1)
        rw [if_pos d] at h
        have h2 := hst2 k
        rw [if_neg d2] at h2
        rw [spec_l01At.j0, e1.out, if_neg (by omega)]
        exact h.trans h2
    · rw [if_neg (fun h => d h.2.1)]
      refine Ev.steps 2 (fun k => ?_) (Ev.now _)
      have h := hst k
      rw [if_neg d] at h
      rw [spec_l01At.j0, e1.out, if_neg (by omega)]
      exact h
  · rw [if_neg (fun h => c h.1)]
    refine Ev.step (fun k => ?_) (Ev.now _)
    rw [spec_l01At.j0, e1.out, if_pos (by omega)]

theorem at4 (s : ByteArray) (pos : Nat) (v : Int) (hs : s.size ≤ 1048576) (hp : pos < s.size) (h0 : 0 ≤ v) (h1 : v ≤ 1000) (b1 b2 b3 : Nat) (hb1 : (s.get! (pos + 1)).toNat = b1) (hb2 : (s.get! (pos + 2)).toNat = b2) (hb3 : (s.get! (pos + 3)).toNat = b3) :
    Ev (fun k => spec_l01At.j0 k s (pos : Int) 4 v) (if 3 < s.size - pos ∧ b1 / 64 = 2 ∧ b2 / 64 = 2 ∧ b3 / 64 = 2 then finR (((v * 64 + ((b1 % 64 : Nat) : Int)) * 64 + ((b2 % 64 : Nat) : Int)) * 64 + ((b3 % 64 : Nat) : Int)) 4 else (0, 0)) := by
  have e1 : Aside0 (wrap64 ((pos : Int) + 4) = ((pos + 4 : Nat) : Int)) := ⟨by rw [w64 (by omega) (by omega)]; omega⟩
  by_cases c : 3 < s.size - pos
  · have hst := fun k => l0_step s pos 1 4 v k hs (by omega) (by omega) h0 (by omega) b1 hb1
    by_cases d : b1 / 64 = 2
    · have hst2 := fun k => l0_step s pos 2 4 (v * 64 + ((b1 % 64 : Nat) : Int)) k hs (by omega) (by omega) (by omega) (by omega) b2 hb2
      by_cases d2 : b2 / 64 = 2
      · have hst3 := fun k => l0_step s pos 3 4 ((v * 64 + ((b1 % 64 : Nat) : Int)) * 64 + ((b2 % 64 : Nat) : Int)) k hs (by omega) (by omega) (by omega) (by omega) b3 hb3
        by_cases d3 : b3 / 64 = 2
        · rw [if_pos ⟨c, d, d2, d3⟩]
          refine Ev.steps 5 (fun k => ?_) (Ev.now _)
          have h := hst (k + 3)
          rw [if_pos d] at h
          have h2 := hst2 (k + 2)
          rw [if_pos d2] at h2
          have h3 := hst3 (k + 1)
          rw [if_pos d3] at h3
          rw [spec_l01At.j0, e1.out, if_neg (by omega)]
          exact h.trans (h2.trans (h3.trans (l0_end s _ _ _ _)))
        · rw [if_neg (fun h => d3 h.2.2.2)]
          refine Ev.steps 4 (fun k => ?_) (Ev.now _)
          have h := hst (k + 2)
          rw [if_pos d] at h
          have h2 := hst2 (k + 1)
          rw [if_pos d2] at h2
          have h3 := hst3 k
          rw [if_neg d3] at h3
          rw [spec_l01At.j0, e1.out, if_neg (by omega)]
          exact h.trans (h2.trans h3)
      · rw [if_neg (fun h => d2 h.2.2.1)]
        refine Ev.steps 3 (fun k => ?_) (Ev.now _)
        have h := hst (k + 1)
        rw [if_pos d] at h
        have h2 := hst2 k
        rw [if_neg d2] at h2
        rw [spec_l01At.j0, e1.out, if_neg (by omega)]
        exact h.trans h2
    · rw [if_neg (fun h => d h.2.1)]
      refine Ev.steps 2 (fun k => ?_) (Ev.now _)
      have h := hst k
      rw [if_neg d] at h
      rw [spec_l01At.j0, e1.out, if_neg (by omega)]
      exact h
  · rw [if_neg (fun h => c h.1)]
    refine Ev.step (fun k => ?_) (Ev.now _)
    rw [spec_l01At.j0, e1.out, if_pos (by omega)]

theorem eb_len (v : Int) : ((eb v).length : Int) = if v < 128 then 1 else if v < 2048 then 2 else if v < 65536 then 3 else 4 := by
  unfold eb
  repeat' split
  all_goals simp
theorem finR_ok (v n : Int) (h : chOK v = true) (hl : ((eb v).length : Int) = n) : finR v n = (v, n) := by unfold finR; rw [if_pos ⟨h, hl⟩]
theorem finR_len (v n : Int) (hl : ((eb v).length : Int) ≠ n) : finR v n = (0, 0) := by unfold finR; rw [if_neg (fun h => hl h.2)]
theorem finR_ch (v n : Int) (h : ¬ (chOK v = true)) : finR v n = (0, 0) := by unfold finR; rw [if_neg (fun h' => h h'.1)]
theorem stepR_bad : stepR (65533, 1) = (0, 0) := rfl
theorem stepR_wide (v n : Nat) (h : n ≠ 1) : stepR (v, n) = ((v : Int), (n : Int)) := by unfold stepR; rw [if_neg (fun h' => h h'.2)]

theorem dec1 (m b0 b1 b2 b3 : Nat) (h : b0 < 128) : stepR (Lib.decodeN m b0 b1 b2 b3) = ((b0 : Int), 1) := by
  unfold Lib.decodeN
  rw [if_pos h, stepR, if_neg (by simp only; omega)]; rfl
theorem dec0 (m b0 b1 b2 b3 : Nat) (h : 128 ≤ b0) (h' : b0 < 192) : stepR (Lib.decodeN m b0 b1 b2 b3) = (0, 0) := by
  unfold Lib.decodeN
  rw [if_neg (by omega), if_neg (by omega), if_neg (by omega), if_neg (by omega)]; rfl
theorem dec2 (m b0 b1 b2 b3 : Nat) (h : 192 ≤ b0) (h' : b0 < 224) : stepR (Lib.decodeN m b0 b1 b2 b3) = if 1 < m ∧ b1 / 64 = 2 then finR (((b0 : Int) - 192) * 64 + ((b1 % 64 : Nat) : Int)) 2 else (0, 0) := by
  unfold Lib.decodeN
  rw [if_neg (by omega)]
  by_cases c : 1 < m ∧ b1 / 64 = 2
  · rw [if_pos ⟨by omega, c⟩, if_pos c]
    have e : ((b0 : Int) - 192) * 64 + ((b1 % 64 : Nat) : Int) = ((b0 % 32 * 64 + b1 % 64 : Nat) : Int) := by omega
    rw [e]
    have hv : b0 % 32 * 64 + b1 % 64 < 2048 := by omega
    generalize b0 % 32 * 64 + b1 % 64 = v at *
    by_cases d : v ≥ 128
    · rw [if_pos d, stepR_wide _ _ (by decide), finR_ok _ _ ((chOK_iff _).2 ⟨by omega, by omega, by omega⟩) (by rw [eb_len, if_neg (by omega), if_pos (by omega)])]; rfl
    · rw [if_neg d, stepR_bad, finR_len _ _ (by rw [eb_len, if_pos (by omega)]; decide)]
  · rw [if_neg (fun h => c h.2), if_neg (by omega), if_neg (by omega), if_neg c, stepR_bad]
theorem dec3 (m b0 b1 b2 b3 : Nat) (h : 224 ≤ b0) (h' : b0 < 240) : stepR (Lib.decodeN m b0 b1 b2 b3) = if 2 < m ∧ b1 / 64 = 2 ∧ b2 / 64 = 2 then finR ((((b0 : Int) - 224) * 64 + ((b1 % 64 : Nat) : Int)) * 64 + ((b2 % 64 : Nat) : Int)) 3 else (0, 0) := by
  unfold Lib.decodeN
  rw [if_neg (by omega), if_neg (by omega)]
  by_cases c : 2 < m ∧ b1 / 64 = 2 ∧ b2 / 64 = 2
  · rw [if_pos ⟨by omega, ⟨by omega, c.2.1⟩, c.1, c.2.2⟩, if_pos c]
    have e : (((b0 : Int) - 224) * 64 + ((b1 % 64 : Nat) : Int)) * 64 + ((b2 % 64 : Nat) : Int) = ((b0 % 16 * 4096 + b1 % 64 * 64 + b2 % 64 : Nat) : Int) := by omega
    rw [e]
    have hv : b0 % 16 * 4096 + b1 % 64 * 64 + b2 % 64 < 65536 := by omega
    generalize b0 % 16 * 4096 + b1 % 64 * 64 + b2 % 64 = v at *
    by_cases d : v ≥ 2048
    · by_cases d2 : v < 55296 ∨ 57344 ≤ v ∧ v ≤ 1114111
      · rw [if_pos ⟨d, d2⟩, stepR_wide _ _ (by decide), finR_ok _ _ ((chOK_iff _).2 ⟨by omega, by omega, by omega⟩) (by rw [eb_len, if_neg (by omega), if_neg (by omega), if_pos (by omega)])]; rfl
      · rw [if_neg (fun h => d2 h.2), stepR_bad, finR_ch _ _ (fun h => by have := (chOK_iff _).1 h; omega)]
    · rw [if_neg (fun h => d h.1), stepR_bad, finR_len _ _ (by rw [eb_len]; split <;> (try split) <;> omega)]
  · rw [if_neg (fun h => c ⟨h.2.2.1, h.2.1.2, h.2.2.2⟩), if_neg (by omega), if_neg c, stepR_bad]
theorem dec4 (m b0 b1 b2 b3 : Nat) (h : 240 ≤ b0) (h' : b0 < 256) : stepR (Lib.decodeN m b0 b1 b2 b3) = if 3 < m ∧ b1 / 64 = 2 ∧ b2 / 64 = 2 ∧ b3 / 64 = 2 then finR (((((b0 : Int) - 240) * 64 + ((b1 % 64 : Nat) : Int)) * 64 + ((b2 % 64 : Nat) : Int)) * 64 + ((b3 % 64 : Nat) : Int)) 4 else (0, 0) := by
  unfold Lib.decodeN
  rw [if_neg (by omega), if_neg (by omega), if_neg (by omega)]
  by_cases c : 3 < m ∧ b1 / 64 = 2 ∧ b2 / 64 = 2 ∧ b3 / 64 = 2
  · rw [if_pos c]
    by_cases g : b0 < 248
    · rw [if_pos ⟨by omega, ⟨by omega, c.2.1⟩, ⟨by omega, c.2.2.1⟩, c.1, c.2.2.2⟩]
      have e : ((((b0 : Int) - 240) * 64 + ((b1 % 64 : Nat) : Int)) * 64 + ((b2 % 64 : Nat) : Int)) * 64 + ((b3 % 64 : Nat) : Int) = ((b0 % 8 * 262144 + b1 % 64 * 4096 + b2 % 64 * 64 + b3 % 64 : Nat) : Int) := by omega
      rw [e]
      generalize b0 % 8 * 262144 + b1 % 64 * 4096 + b2 % 64 * 64 + b3 % 64 = v at *
      by_cases d : v ≥ 65536
      · by_cases d2 : v < 55296 ∨ 57344 ≤ v ∧ v ≤ 1114111
        · rw [if_pos ⟨d, d2⟩, stepR_wide _ _ (by decide), finR_ok _ _ ((chOK_iff _).2 ⟨by omega, by omega, by omega⟩) (by rw [eb_len, if_neg (by omega), if_neg (by omega), if_neg (by omega)])]; rfl
        · rw [if_neg (fun h => d2 h.2), stepR_bad, finR_ch _ _ (fun h => by have := (chOK_iff _).1 h; omega)]
      · rw [if_neg (fun h => d h.1), stepR_bad, finR_len _ _ (by rw [eb_len]; split <;> (try split) <;> (try split) <;> omega)]
    · rw [if_neg (by omega), stepR_bad, finR_ch _ _ (fun h => by have := (chOK_iff _).1 h; omega)]
  · rw [if_neg (fun h => c ⟨h.2.2.2.1, h.2.1.2, h.2.2.1.2, h.2.2.2.2⟩), if_neg c, stepR_bad]

theorem at_step (s : ByteArray) (pos : Nat) (hs : s.size ≤ 1048576) (hp : pos < s.size) : Ev (fun k => spec_l01At.f k s (pos : Int)) (stepR (Utf8.decode s pos)) := by
  rw [Lib.decode_at]
  generalize hm : s.size - pos = m
  obtain ⟨b0, hb0⟩ : ∃ b, (s.get! pos).toNat = b := ⟨_, rfl⟩
  obtain ⟨b1, hb1⟩ : ∃ b, (s.get! (pos + 1)).toNat = b := ⟨_, rfl⟩
  obtain ⟨b2, hb2⟩ : ∃ b, (s.get! (pos + 2)).toNat = b := ⟨_, rfl⟩
  obtain ⟨b3, hb3⟩ : ∃ b, (s.get! (pos + 3)).toNat = b := ⟨_, rfl⟩
  have hlt : b0 < 256 := by rw [← hb0]; exact UInt8.toNat_lt _
  rw [hb0, hb1, hb2, hb3]
  have e3 : Aside0 (wrap64 (b0 : Int) = (b0 : Int)) := ⟨w64 (by omega) (by omega)⟩
  unfold spec_l01At.f
  rw [bt_get, hb0, e3.out]
  refine Ev.pos (by omega) (Ev.pos (by omega) ?_)
  by_cases c1 : b0 < 128
  · rw [dec1 m b0 b1 b2 b3 c1]
    exact Ev.pos (by omega) (Ev.now _)
  · refine Ev.neg (by omega) ?_
    by_cases c2 : b0 ≥ 240
    · have e4 : wrap64 ((b0 : Int) - 240) = (b0 : Int) - 240 := w64 (by omega) (by omega)
      rw [dec4 m b0 b1 b2 b3 c2 hlt, e4, ← hm]
      exact Ev.pos (by omega) (at4 s pos _ hs hp (by omega) (by omega) b1 b2 b3 hb1 hb2 hb3)
    · refine Ev.neg (by omega) ?_
      by_cases c3 : b0 ≥ 224
      · have e4 : wrap64 ((b0 : Int) - 224) = (b0 : Int) - 224 := w64 (by omega) (by omega)
        rw [dec3 m b0 b1 b2 b3 c3 (by omega), e4, ← hm]
        exact Ev.pos (by omega) (at3 s pos _ hs hp (by omega) (by omega) b1 b2 hb1 hb2)
      · refine Ev.neg (by omega) ?_
        by_cases c4 : b0 ≥ 192
        · have e4 : wrap64 ((b0 : Int) - 192) = (b0 : Int) - 192 := w64 (by omega) (by omega)
          rw [dec2 m b0 b1 b2 b3 c4 (by omega), e4, ← hm]
          exact Ev.pos (by omega) (at2 s pos _ hs hp (by omega) (by omega) b1 hb1)
        · rw [dec0 m b0 b1 b2 b3 (by omega) (by omega)]
          exact Ev.neg (by omega) (Ev.now _)

def badAt (s : ByteArray) (pos : Nat) : Bool := decide ((Utf8.decode s pos).1 = 65533 ∧ (Utf8.decode s pos).2 = 1)
def validFrom (s : ByteArray) : Nat → Nat → Bool
  | 0, _ => true
  | n + 1, pos => if pos < s.size then (if badAt s pos then false else validFrom s n (pos + (Utf8.decode s pos).2)) else true

theorem decode_len (s : ByteArray) (pos : Nat) : (Utf8.decode s pos).2 ≤ 4 := by
  rw [Lib.decode_at]
  unfold Lib.decodeN
  repeat' split
  all_goals simp

theorem spec_loop (s : ByteArray) (hs : s.size ≤ 1048576) (fuel : Nat) : ∀ (pos : Nat) (acc : List Int), s.size ≤ pos + fuel → acc.length ≤ pos →
    Ev (fun k => spec_l01Decode.l0 k s acc (pos : Int)) (if validFrom s fuel pos then (acc ++ impl_Decode.runes s fuel pos, true) else ([], false)) := by
  induction fuel with
  | zero =>
    intro pos acc h1 h2
    rw [validFrom, if_pos rfl, impl_Decode.runes, List.append_nil]
    refine Ev.step (fun k => ?_) (Ev.now _)
    rw [spec_l01Decode.l0, if_neg (by omega)]
  | succ n ih =>
    intro pos acc h1 h2
    rw [validFrom, impl_Decode.runes]
    by_cases hp : pos < s.size
    · have hat := at_step s pos hs hp
      have hw := Lib.width_pos s pos
      have hw4 := decode_len s pos
      rw [if_pos hp, if_pos hp]
      refine Ev.step (f := fun k => (spec_l01At.f k s (pos : Int)).bind fun bt120 => if bt120.2 = 0 then some ([], false) else if acc.length < 17592186044416 then spec_l01Decode.l0 k s (acc ++ [bt120.1]) (wrap64 ((pos : Int) + bt120.2)) else none) (fun k => by rw [spec_l01Decode.l0, if_pos (by omega)]) (Ev.bind hat ?_)
      by_cases hb : badAt s pos = true
      · rw [if_pos hb]
        have hb' := of_decide_eq_true hb
        have e : stepR (Utf8.decode s pos) = (0, 0) := by unfold stepR; rw [if_pos hb']
        rw [e]
        exact Ev.pos rfl (Ev.now _)
      · rw [if_neg hb]
        have hb' : ¬ ((Utf8.decode s pos).1 = 65533 ∧ (Utf8.decode s pos).2 = 1) := fun h => hb (decide_eq_true h)
        have e : stepR (Utf8.decode s pos) = (((Utf8.decode s pos).1 : Int), ((Utf8.decode s pos).2 : Int)) := by unfold stepR; rw [if_neg hb']
        have e5 : wrap64 ((pos : Int) + ((Utf8.decode s pos).2 : Int)) = ((pos + (Utf8.decode s pos).2 : Nat) : Int) := by rw [w64 (by omega) (by omega)]; omega
        rw [e]
        simp only
        rw [e5]
        refine Ev.neg (by omega) (Ev.pos (by omega) ?_)
        have h' := ih (pos + (Utf8.decode s pos).2) (acc ++ [((Utf8.decode s pos).1 : Int)]) (by omega) (by simp; omega)
        rw [List.append_assoc] at h'
        exact h'
    · rw [if_neg hp, if_pos rfl, if_neg hp, List.append_nil]
      refine Ev.step (fun k => ?_) (Ev.now _)
      rw [spec_l01Decode.l0, if_neg (by omega)]

theorem decode_drop (s : ByteArray) (pos : Nat) : Lib.decodeL (s.data.toList.drop pos) = Utf8.decode s pos := by
  unfold Lib.decodeL
  have hsz : (⟨(s.data.toList.drop pos).toArray⟩ : ByteArray).size = s.size - pos := by
    show (s.data.toList.drop pos).toArray.size = _
    rw [List.size_toArray, List.length_drop, data_length]
  have hg : ∀ j, (⟨(s.data.toList.drop pos).toArray⟩ : ByteArray).get! j = s.get! (pos + j) := by
    intro j
    rw [← Lib.getD_get!', ← Lib.getD_get!']
    show (s.data.toList.drop pos).getD j 0 = _
    rw [List.getD_eq_getElem?_getD, List.getD_eq_getElem?_getD, List.getElem?_drop]
  rw [Lib.decode_at, Lib.decode_at, hsz, hg, hg, hg, hg]; rfl

theorem valid_from (s : ByteArray) (fuel : Nat) : ∀ pos : Nat, s.size ≤ pos + fuel → Lib.validD (s.data.toList.drop pos) = validFrom s fuel pos := by
  induction fuel with
  | zero =>
    intro pos h
    rw [List.drop_of_length_le (by rw [data_length]; omega), validFrom]; rfl
  | succ n ih =>
    intro pos h
    rw [validFrom]
    by_cases hp : pos < s.size
    · have hne : s.data.toList.drop pos ≠ [] := by
        intro e
        have := congrArg List.length e
        rw [List.length_drop, data_length] at this
        simp at this; omega
      have hw := Lib.width_pos s pos
      rw [if_pos hp, Lib.validD_step _ hne, decode_drop, List.drop_drop, ih (pos + (Utf8.decode s pos).2) (by omega)]
      unfold badAt
      by_cases hb : (Utf8.decode s pos).1 = 65533 ∧ (Utf8.decode s pos).2 = 1
      · rw [if_pos hb, decide_eq_true hb]; rfl
      · rw [if_neg hb, decide_eq_false hb]; rfl
    · rw [if_neg hp, List.drop_of_length_le (by rw [data_length]; omega)]; rfl

theorem valid_all (s : ByteArray) : Lib.validD s.data.toList = validFrom s s.size 0 := by
  have := valid_from s s.size 0 (by omega)
  rwa [List.drop_zero] at this

def decTell (s : ByteArray) : List Int × Int := if (s.size : Int) > 65536 then ([], 2) else if Lib.validD s.data.toList = true then (impl_Decode.runes s s.size 0, 0) else ([], 3)
theorem impl_Decode_eq (s : ByteArray) : impl_Decode.f s = some (decTell s) := by
  unfold impl_Decode.f decTell
  split
  · rfl
  · split <;> rfl
theorem runes_length (s : ByteArray) (fuel : Nat) : ∀ pos, (impl_Decode.runes s fuel pos).length ≤ fuel := by
  induction fuel with
  | zero => intro pos; simp [impl_Decode.runes]
  | succ n ih =>
    intro pos
    rw [impl_Decode.runes]
    split
    · rw [List.length_cons]; have := ih (pos + (Utf8.decode s pos).2); omega
    · simp
theorem decTell_length (s : ByteArray) : (decTell s).1.length ≤ 65536 := by
  unfold decTell
  split
  · simp
  · split
    · have := runes_length s s.size 0; simp only; omega
    · simp
theorem l01Decode_eq (s : ByteArray) (hs : s.size ≤ 1048576) : Ev (fun k => spec_l01Decode.f k s) (if Lib.validD s.data.toList = true then (impl_Decode.runes s s.size 0, true) else ([], false)) := by
  have h := spec_loop s hs s.size 0 [] (by omega) (by simp)
  rw [List.nil_append] at h
  rw [valid_all]
  exact h
theorem spec_Decode_eq (s : ByteArray) : Ev (fun k => spec_Decode.f k s) (decTell s) := by
  unfold spec_Decode.f decTell
  by_cases hb : (s.size : Int) > 65536
  · rw [if_pos hb]; exact Ev.pos hb (Ev.now _)
  · rw [if_neg hb]
    refine Ev.neg hb (Ev.bind (l01Decode_eq s (by omega)) ?_)
    by_cases hv : Lib.validD s.data.toList = true
    · rw [if_pos hv, if_pos hv]; exact Ev.pos rfl (Ev.now _)
    · rw [if_neg hv, if_neg hv]; exact Ev.neg Bool.false_ne_true (Ev.now _)

def cellv (a b prev row : List Int) (i j : Nat) : Int :=
  if a.getD i 0 = b.getD j 0 then mn (mn (prev.getD j 0) (wrap64 (prev.getD (j + 1) 0 + 1))) (wrap64 (row.getD j 0 + 1))
  else mn (mn (wrap64 (prev.getD j 0 + 1)) (wrap64 (prev.getD (j + 1) 0 + 1))) (wrap64 (row.getD j 0 + 1))
def rowv (a b prev : List Int) (i : Nat) : Nat → List Int
  | 0 => [((i + 1 : Nat) : Int)]
  | j + 1 => rowv a b prev i j ++ [cellv a b prev (rowv a b prev i j) i j]
def cnt (n : Nat) : List Int := (List.range n).map Int.ofNat
def tabv (a b : List Int) : Nat → List Int
  | 0 => cnt (b.length + 1)
  | i + 1 => rowv a b (tabv a b i) i b.length
theorem rowv_length (a b prev : List Int) (i j : Nat) : (rowv a b prev i j).length = j + 1 := by
  induction j with
  | zero => rfl
  | succ j ih => rw [rowv, List.length_append, ih]; rfl
theorem cnt_length (n : Nat) : (cnt n).length = n := by simp [cnt]
theorem cnt_succ (n : Nat) : cnt (n + 1) = cnt n ++ [(n : Int)] := by simp [cnt, List.range_succ]
theorem tabv_length (a b : List Int) (i : Nat) : (tabv a b i).length = b.length + 1 := by
  cases i with
  | zero => exact cnt_length _
  | succ i => exact rowv_length a b _ i _
theorem wn (i : Nat) (h : i ≤ 100000) : wrap64 ((i : Int) + 1) = ((i + 1 : Nat) : Int) := by rw [w64 (by omega) (by omega)]; omega
theorem wp (i : Nat) (h : i ≤ 100000) : wrap64 (((i + 1 : Nat) : Int) - 1) = (i : Int) := by rw [w64 (by omega) (by omega)]; omega
def pad (xs : List Int) (m : Nat) : List Int := xs ++ List.replicate m 0
theorem pad_len (xs : List Int) (m : Nat) : (pad xs m).length = xs.length + m := by simp [pad]
theorem pad_rd (xs : List Int) (m j : Nat) (h : j < xs.length) : (pad xs m).getD j 0 = xs.getD j 0 := by
  rw [pad, List.getD_eq_getElem?_getD, List.getD_eq_getElem?_getD, List.getElem?_append_left h]
theorem pad_set (xs : List Int) (m : Nat) (v : Int) : (pad xs (m + 1)).set xs.length v = pad (xs ++ [v]) m := by
  unfold pad
  rw [List.set_append_right xs.length v (Nat.le_refl _), Nat.sub_self, List.replicate_succ, List.set_cons_zero, List.append_assoc]; rfl
theorem pad_zero (xs : List Int) : pad xs 0 = xs := by simp [pad]
theorem pad_nil (m : Nat) : pad [] m = List.replicate m 0 := rfl

theorem s2_loop (a b prev : List Int) (i : Nat) (r : Int) (ha : a.length ≤ 200) (hb : b.length ≤ 200) (hi : i < a.length) (hp : prev.length = b.length + 1)
    (he : Ev (fun k => spec_l05Edits.l1 k a b (rowv a b prev i b.length) ((i + 2 : Nat) : Int)) r) (d : Nat) :
    ∀ j, j + d = b.length → Ev (fun k => spec_l05Edits.l2 k a b prev ((i + 1 : Nat) : Int) (rowv a b prev i j) ((j + 1 : Nat) : Int)) r := by
  induction d with
  | zero =>
    intro j hj
    obtain rfl : j = b.length := by omega
    refine Ev.step (fun k => ?_) he
    rw [spec_l05Edits.l2, if_neg (by omega), wn (i + 1) (by omega)]
  | succ d ih =>
    intro j hj
    have hl := rowv_length a b prev i j
    refine Ev.step (fun k => ?_) (ih (j + 1) (by omega))
    rw [spec_l05Edits.l2, if_pos (by omega), wp j (by omega), wp i (by omega), if_pos (by omega), if_pos (by omega), if_pos (by omega), if_pos (by omega), if_pos (by omega), rd_nat, rd_nat, rd_nat, rd_nat, rd_nat, wn (j + 1) (by omega)]
    rw [rowv, cellv]
    by_cases c : a.getD i 0 = b.getD j 0
    · rw [if_pos c, if_pos (by omega), if_pos (by omega), if_pos (by omega), if_pos (by omega), if_pos c]
    · rw [if_neg c, if_pos (by omega), if_pos (by omega), if_pos (by omega), if_pos (by omega), if_neg c]
theorem s1_loop (a b : List Int) (ha : a.length ≤ 200) (hb : b.length ≤ 200) (d : Nat) :
    ∀ i, i + d = a.length → Ev (fun k => spec_l05Edits.l1 k a b (tabv a b i) ((i + 1 : Nat) : Int)) ((tabv a b a.length).getD b.length 0) := by
  induction d with
  | zero =>
    intro i hi
    obtain rfl : i = a.length := by omega
    have hl := tabv_length a b a.length
    refine Ev.step (fun k => ?_) (Ev.now _)
    rw [spec_l05Edits.l1, if_neg (by omega), if_pos (by omega), if_pos (by omega), rd_nat]
  | succ d ih =>
    intro i hi
    refine Ev.step (fun k => ?_) (s2_loop a b (tabv a b i) i _ ha hb (by omega) (tabv_length a b i) (ih (i + 1) (by omega)) b.length 0 (by omega))
    rw [spec_l05Edits.l1, if_pos (by omega)]; rfl
theorem s0_loop (a b : List Int) (ha : a.length ≤ 200) (hb : b.length ≤ 200) (d : Nat) :
    ∀ i, i + d = b.length + 1 → Ev (fun k => spec_l05Edits.l0 k a b (cnt i) (i : Int)) ((tabv a b a.length).getD b.length 0) := by
  induction d with
  | zero =>
    intro i hi
    obtain rfl : i = b.length + 1 := by omega
    refine Ev.step (fun k => ?_) (s1_loop a b ha hb a.length 0 (by omega))
    rw [spec_l05Edits.l0, if_neg (by omega)]; rfl
  | succ d ih =>
    intro i hi
    have hl := cnt_length i
    refine Ev.step (fun k => ?_) (ih (i + 1) (by omega))
    rw [spec_l05Edits.l0, if_pos (by omega), if_pos (by omega), wn i (by omega), cnt_succ]
theorem spec_edits_eq (a b : List Int) (ha : a.length ≤ 200) (hb : b.length ≤ 200) : Ev (fun k => spec_l05Edits.f k a b) ((tabv a b a.length).getD b.length 0) :=
  s0_loop a b ha hb (b.length + 1) 0 (by omega)

theorem i2_loop (a b prev : List Int) (i : Nat) (r : Int) (ha : a.length ≤ 200) (hb : b.length ≤ 200) (hi : i < a.length) (hp : prev.length = b.length + 1)
    (he : Ev (fun k => impl_edits.l1 k a b (rowv a b prev i b.length) (a.length : Int) ((i + 1 : Nat) : Int)) r) (d : Nat) :
    ∀ j, j + d = b.length → Ev (fun k => impl_edits.l2 k a b prev (i : Int) (pad (rowv a b prev i j) d) (a.length : Int) (i : Int) (b.length : Int) (j : Int)) r := by
  induction d with
  | zero =>
    intro j hj
    obtain rfl : j = b.length := by omega
    refine Ev.step (fun k => ?_) he
    rw [impl_edits.l2, if_neg (by omega), wn i (by omega), pad_zero]
  | succ d ih =>
    intro j hj
    have hl := rowv_length a b prev i j
    have hq := pad_len (rowv a b prev i j) (d + 1)
    refine Ev.step (fun k => ?_) (ih (j + 1) (by omega))
    rw [impl_edits.l2, if_pos (by omega), if_pos (by omega), if_pos (by omega), if_pos (by omega), if_pos (by omega), if_pos (by omega), wn j (by omega), rd_nat, rd_nat, rd_nat, rd_nat, rd_nat, pad_rd _ _ j (by omega), Int.toNat_natCast]
    have hs := pad_set (rowv a b prev i j) d
    rw [hl] at hs
    rw [rowv, cellv]
    by_cases c : a.getD i 0 = b.getD j 0
    · rw [if_pos c, if_pos (by omega), if_pos (by omega), if_pos (by omega), if_pos (by omega), if_pos c, hs]
    · rw [if_neg c, if_pos (by omega), if_pos (by omega), if_pos (by omega), if_pos (by omega), if_neg c, hs]
theorem i1_loop (a b : List Int) (ha : a.length ≤ 200) (hb : b.length ≤ 200) (d : Nat) :
    ∀ i, i + d = a.length → Ev (fun k => impl_edits.l1 k a b (tabv a b i) (a.length : Int) (i : Int)) ((tabv a b a.length).getD b.length 0) := by
  induction d with
  | zero =>
    intro i hi
    obtain rfl : i = a.length := by omega
    have hl := tabv_length a b a.length
    refine Ev.step (fun k => ?_) (Ev.now _)
    rw [impl_edits.l1, if_neg (by omega), if_pos (by omega), if_pos (by omega), rd_nat]
  | succ d ih =>
    intro i hi
    refine Ev.step (fun k => ?_) (i2_loop a b (tabv a b i) i _ ha hb (by omega) (tabv_length a b i) (ih (i + 1) (by omega)) b.length 0 (by omega))
    rw [impl_edits.l1, if_pos (by omega), wn b.length (by omega), if_pos (by omega), Int.toNat_natCast, if_pos (by omega), Option.bind_some, if_pos (by rw [List.length_replicate]; omega), wn i (by omega)]
    rfl
theorem i0_loop (a b : List Int) (ha : a.length ≤ 200) (hb : b.length ≤ 200) (d : Nat) :
    ∀ i, i + d = b.length + 1 → Ev (fun k => impl_edits.l0 k a b (pad (cnt i) d) ((b.length + 1 : Nat) : Int) (i : Int)) ((tabv a b a.length).getD b.length 0) := by
  induction d with
  | zero =>
    intro i hi
    obtain rfl : i = b.length + 1 := by omega
    refine Ev.step (fun k => ?_) (i1_loop a b ha hb a.length 0 (by omega))
    rw [impl_edits.l0, if_neg (by omega), pad_zero]; rfl
  | succ d ih =>
    intro i hi
    have hl := cnt_length i
    have hq := pad_len (cnt i) (d + 1)
    refine Ev.step (fun k => ?_) (ih (i + 1) (by omega))
    have hs := pad_set (cnt i) d
    rw [hl] at hs
    rw [impl_edits.l0, if_pos (by omega), if_pos (by omega), if_pos (by omega), Int.toNat_natCast, hs, wn i (by omega), cnt_succ]
theorem impl_edits_eq (a b : List Int) (ha : a.length ≤ 200) (hb : b.length ≤ 200) : Ev (fun k => impl_edits.f k a b) ((tabv a b a.length).getD b.length 0) := by
  unfold impl_edits.f
  rw [wn b.length (by omega), Int.toNat_natCast]
  refine Ev.pos (by omega) (Ev.pos (by omega) ?_)
  have h := i0_loop a b ha hb (b.length + 1) 0 (by omega)
  refine Ev.congr (fun k => ?_) h
  rw [Option.bind_some, List.length_replicate]; rfl

def editsTell (s t : ByteArray) : Int × Int :=
  if (s.size : Int) > 65536 ∨ (t.size : Int) > 65536 then (0, 2) else if (decTell s).2 = 0 then (if (decTell t).2 = 0 then (if ((decTell s).1.length : Int) > 200 then (0, 12) else if ((decTell t).1.length : Int) > 200 then (0, 12) else ((tabv (decTell s).1 (decTell t).1 (decTell s).1.length).getD (decTell t).1.length 0, 0)) else (0, 3)) else (0, 3)
theorem tell3 (s : ByteArray) (h : ¬ (s.size : Int) > 65536) (h' : ¬ (decTell s).2 = 0) : (decTell s).2 = 3 := by
  unfold decTell at *
  rw [if_neg h] at h' ⊢
  by_cases v : Lib.validD s.data.toList = true
  · rw [if_pos v] at h'; exact absurd rfl h'
  · rw [if_neg v]
theorem spec_j0_eq (s t : ByteArray) (hs : ¬ (s.size : Int) > 65536) (b : Bool) (hb : b = decide ((t.size : Int) > 65536)) : Ev (fun k => spec_Edits.j0 k s t b) (editsTell s t) := by
  refine Ev.step (fun k => by rw [spec_Edits.j0]) ?_
  unfold editsTell
  by_cases ht : (t.size : Int) > 65536
  · rw [if_pos (.inr ht)]; exact Ev.pos (by rw [hb]; exact decide_eq_true ht) (Ev.now _)
  · rw [if_neg (fun h => h.elim hs ht)]
    refine Ev.neg (by rw [hb]; simp; omega) (Ev.bind (spec_Decode_eq s) ?_)
    by_cases h1 : (decTell s).2 = 0
    · rw [if_pos h1]
      refine Ev.pos h1 (Ev.bind (spec_Decode_eq t) ?_)
      by_cases h2 : (decTell t).2 = 0
      · rw [if_pos h2]
        refine Ev.pos h2 ?_
        by_cases h3 : ((decTell s).1.length : Int) > 200
        · rw [if_pos h3]; exact Ev.pos h3 (Ev.now _)
        · rw [if_neg h3]
          refine Ev.neg h3 ?_
          by_cases h4 : ((decTell t).1.length : Int) > 200
          · rw [if_pos h4]; exact Ev.pos h4 (Ev.now _)
          · rw [if_neg h4]
            exact Ev.neg h4 (Ev.bind (spec_edits_eq _ _ (by omega) (by omega)) (Ev.now _))
      · rw [if_neg h2]
        refine Ev.neg h2 ?_
        rw [tell3 t ht h2]; exact Ev.now _
    · rw [if_neg h1]
      refine Ev.neg h1 ?_
      rw [tell3 s hs h1]; exact Ev.now _
theorem impl_j0_eq (s t : ByteArray) (hs : ¬ (s.size : Int) > 65536) (b : Bool) (hb : b = decide ((t.size : Int) > 65536)) : Ev (fun k => impl_Edits.j0 k s t b) (editsTell s t) := by
  refine Ev.step (fun k => by rw [impl_Edits.j0]) ?_
  unfold editsTell
  by_cases ht : (t.size : Int) > 65536
  · rw [if_pos (.inr ht)]; exact Ev.pos (by rw [hb]; exact decide_eq_true ht) (Ev.now _)
  · rw [if_neg (fun h => h.elim hs ht)]
    refine Ev.neg (by rw [hb]; simp; omega) (Ev.bind (Ev.ofEq (impl_Decode_eq s)) (Ev.bind (Ev.ofEq (impl_Decode_eq t)) ?_))
    by_cases h1 : (decTell s).2 = 0
    · rw [if_pos h1]
      refine Ev.pos h1 (Ev.step (fun k => by rw [impl_Edits.j1]) ?_)
      by_cases h2 : (decTell t).2 = 0
      · rw [if_pos h2]
        refine Ev.neg (by simp [h2]) ?_
        by_cases h3 : ((decTell s).1.length : Int) > 200
        · rw [if_pos h3]; exact Ev.pos h3 (Ev.now _)
        · rw [if_neg h3]
          refine Ev.neg h3 ?_
          by_cases h4 : ((decTell t).1.length : Int) > 200
          · rw [if_pos h4]; exact Ev.pos h4 (Ev.now _)
          · rw [if_neg h4]
            exact Ev.neg h4 (Ev.bind (impl_edits_eq _ _ (by omega) (by omega)) (Ev.now _))
      · rw [if_neg h2]
        exact Ev.pos (by simp [h2]) (Ev.now _)
    · rw [if_neg h1]
      refine Ev.neg h1 (Ev.step (fun k => by rw [impl_Edits.j1]) ?_)
      exact Ev.pos rfl (Ev.now _)
theorem spec_Edits_eq (s t : ByteArray) : Ev (fun k => spec_Edits.f k s t) (editsTell s t) := by
  unfold spec_Edits.f
  by_cases hs : (s.size : Int) > 65536
  · refine Ev.pos hs (Ev.step (fun k => by rw [spec_Edits.j0]) (Ev.pos rfl ?_))
    unfold editsTell; rw [if_pos (.inl hs)]; exact Ev.now _
  · exact Ev.neg hs (spec_j0_eq s t hs _ rfl)
theorem impl_Edits_eq (s t : ByteArray) : Ev (fun k => impl_Edits.f k s t) (editsTell s t) := by
  unfold impl_Edits.f
  by_cases hs : (s.size : Int) > 65536
  · refine Ev.pos hs (Ev.step (fun k => by rw [impl_Edits.j0]) (Ev.pos rfl ?_))
    unfold editsTell; rw [if_pos (.inl hs)]; exact Ev.now _
  · exact Ev.neg hs (impl_j0_eq s t hs _ rfl)


def sub1 (a b : List Int) (i j : Nat) : Int := if a.getD i 0 = b.getD j 0 then 0 else 1
def edRow (a b : List Int) (i : Nat) (prev : Nat → Int) : Nat → Int
  | 0 => ((i + 1 : Nat) : Int)
  | j + 1 => mn (mn (prev j + sub1 a b i j) (prev (j + 1) + 1)) (edRow a b i prev j + 1)
def ed (a b : List Int) : Nat → Nat → Int
  | 0 => fun j => (j : Int)
  | i + 1 => edRow a b i (ed a b i)
theorem ed_0 (a b : List Int) (j : Nat) : ed a b 0 j = (j : Int) := rfl
theorem ed_i0 (a b : List Int) (i : Nat) : ed a b i 0 = (i : Int) := by cases i <;> rfl
theorem ed_s (a b : List Int) (i j : Nat) : ed a b (i + 1) (j + 1) = mn (mn (ed a b i j + sub1 a b i j) (ed a b i (j + 1) + 1)) (ed a b (i + 1) j + 1) := rfl
theorem sub1_b (a b : List Int) (i j : Nat) : 0 ≤ sub1 a b i j ∧ sub1 a b i j ≤ 1 := by unfold sub1; split <;> omega
theorem ed_le (a b : List Int) (i j : Nat) : ed a b (i + 1) (j + 1) ≤ ed a b i j + sub1 a b i j ∧ ed a b (i + 1) (j + 1) ≤ ed a b i (j + 1) + 1 ∧ ed a b (i + 1) (j + 1) ≤ ed a b (i + 1) j + 1 := by
  rw [ed_s]; unfold mn
  generalize ed a b i j + sub1 a b i j = x
  generalize ed a b i (j + 1) + 1 = y
  generalize ed a b (i + 1) j + 1 = z
  repeat' split
  all_goals omega
theorem ed_cases (a b : List Int) (i j : Nat) : ed a b (i + 1) (j + 1) = ed a b i j + sub1 a b i j ∨ ed a b (i + 1) (j + 1) = ed a b i (j + 1) + 1 ∨ ed a b (i + 1) (j + 1) = ed a b (i + 1) j + 1 := by
  rw [ed_s]; unfold mn
  generalize ed a b i j + sub1 a b i j = x
  generalize ed a b i (j + 1) + 1 = y
  generalize ed a b (i + 1) j + 1 = z
  repeat' split
  all_goals omega
theorem ed_bounds (a b : List Int) (n : Nat) : ∀ i j, i + j = n → (j : Int) - i ≤ ed a b i j ∧ (i : Int) - j ≤ ed a b i j ∧ ed a b i j ≤ (i : Int) + j := by
  induction n using Nat.strongRecOn with
  | _ n ih =>
    intro i j h
    match i, j with
    | 0, j => rw [ed_0]; omega
    | i + 1, 0 => rw [ed_i0]; omega
    | i + 1, j + 1 =>
      have h1 := ih (i + j) (by omega) i j rfl
      have h2 := ih (i + (j + 1)) (by omega) i (j + 1) rfl
      have h3 := ih (i + 1 + j) (by omega) (i + 1) j rfl
      have hs := sub1_b a b i j
      have hl := ed_le a b i j
      rcases ed_cases a b i j with h | h | h <;> omega
theorem ed_nonneg (a b : List Int) (i j : Nat) : 0 ≤ ed a b i j := by have := ed_bounds a b _ i j rfl; omega
theorem ed_up (a b : List Int) (i j : Nat) : ed a b (i + 1) j ≤ ed a b i j + 1 := by
  cases j with
  | zero => rw [ed_i0, ed_i0]; omega
  | succ j => exact (ed_le a b i j).2.1
theorem ed_right (a b : List Int) (i j : Nat) : ed a b i (j + 1) ≤ ed a b i j + 1 := by
  cases i with
  | zero => rw [ed_0, ed_0]; omega
  | succ i => exact (ed_le a b i j).2.2
theorem sub1_comm (a b : List Int) (i j : Nat) : sub1 a b i j = sub1 b a j i := by
  unfold sub1
  by_cases h : a.getD i 0 = b.getD j 0
  · rw [if_pos h, if_pos h.symm]
  · rw [if_neg h, if_neg (fun e => h e.symm)]
theorem ed_comm (a b : List Int) (n : Nat) : ∀ i j, i + j = n → ed a b i j = ed b a j i := by
  induction n using Nat.strongRecOn with
  | _ n ih =>
    intro i j h
    match i, j with
    | 0, j => rw [ed_0, ed_i0]
    | i + 1, 0 => rw [ed_i0, ed_0]
    | i + 1, j + 1 =>
      have h1 := ih (i + j) (by omega) i j rfl
      have h2 := ih (i + (j + 1)) (by omega) i (j + 1) rfl
      have h3 := ih (i + 1 + j) (by omega) (i + 1) j rfl
      have hs := sub1_comm a b i j
      have l1 := ed_le a b i j
      have l2 := ed_le b a j i
      rcases ed_cases a b i j with c | c | c <;> rcases ed_cases b a j i with d | d | d <;> omega
theorem sub1_tri (a c b : List Int) (i k j : Nat) : sub1 a b i j ≤ sub1 a c i k + sub1 c b k j := by
  have h1 := sub1_b a c i k
  have h2 := sub1_b c b k j
  have h3 := sub1_b a b i j
  unfold sub1 at *
  by_cases e1 : a.getD i 0 = c.getD k 0
  · by_cases e2 : c.getD k 0 = b.getD j 0
    · rw [if_pos (e1.trans e2), if_pos e1, if_pos e2]; omega
    · rw [if_neg e2] at *; omega
  · rw [if_neg e1] at *; omega
theorem ed_tri (a c b : List Int) (n : Nat) : ∀ i k j, i + k + j = n → ed a b i j ≤ ed a c i k + ed c b k j := by
  induction n using Nat.strongRecOn with
  | _ n ih =>
    intro i k j h
    match i, k, j with
    | 0, k, j => have := ed_bounds c b _ k j rfl; rw [ed_0, ed_0]; omega
    | i + 1, k, 0 => have := ed_bounds a c _ (i + 1) k rfl; rw [ed_i0, ed_i0]; omega
    | i + 1, 0, j + 1 => have := ed_bounds a b _ (i + 1) (j + 1) rfl; rw [ed_i0, ed_0]; omega
    | i + 1, k + 1, j + 1 =>
      have l1 := ed_le a b i j
      have st := sub1_tri a c b i k j
      have s1 := sub1_b a c i k
      have s2 := sub1_b c b k j
      rcases ed_cases a c i k with p | p | p
      · rcases ed_cases c b k j with q | q | q
        · have := ih (i + k + j) (by omega) i k j rfl
          omega
        · have h1 := ih (i + k + (j + 1)) (by omega) i k (j + 1) rfl
          omega
        · have h1 := ih (i + 1 + (k + 1) + j) (by omega) (i + 1) (k + 1) j rfl
          omega
      · have h1 := ih (i + (k + 1) + (j + 1)) (by omega) i (k + 1) (j + 1) rfl
        omega
      · rcases ed_cases c b k j with q | q | q
        · have h1 := ih (i + 1 + k + j) (by omega) (i + 1) k j rfl
          omega
        · have h1 := ih (i + 1 + k + (j + 1)) (by omega) (i + 1) k (j + 1) rfl
          omega
        · have h1 := ih (i + 1 + (k + 1) + j) (by omega) (i + 1) (k + 1) j rfl
          omega
theorem ed_zero (a b : List Int) (n : Nat) : ∀ i j, i + j = n → ed a b i j = 0 → i = j ∧ ∀ m, m < i → a.getD m 0 = b.getD m 0 := by
  induction n using Nat.strongRecOn with
  | _ n ih =>
    intro i j h h0
    match i, j with
    | 0, j => rw [ed_0] at h0; exact ⟨by omega, fun m hm => absurd hm (by omega)⟩
    | i + 1, 0 => rw [ed_i0] at h0; omega
    | i + 1, j + 1 =>
      have n1 := ed_nonneg a b i j
      have n2 := ed_nonneg a b i (j + 1)
      have n3 := ed_nonneg a b (i + 1) j
      have hs := sub1_b a b i j
      rcases ed_cases a b i j with c | c | c
      · obtain ⟨g1, g2⟩ := ih (i + j) (by omega) i j rfl (by omega)
        refine ⟨by omega, fun m hm => ?_⟩
        by_cases e : m = i
        · subst e
          have h1 : sub1 a b m j = 0 := by omega
          unfold sub1 at h1
          by_cases e : a.getD m 0 = b.getD j 0
          · rw [e, g1]
          · rw [if_neg e] at h1; omega
        · exact g2 m (by omega)
      · omega
      · omega
theorem ed_same (a : List Int) (i : Nat) : ed a a i i = 0 := by
  induction i with
  | zero => rfl
  | succ i ih =>
    have l := ed_le a a i i
    have n := ed_nonneg a a (i + 1) (i + 1)
    have s : sub1 a a i i = 0 := by unfold sub1; rw [if_pos rfl]
    omega
theorem row_ed (a b prev : List Int) (i : Nat) (hi : i ≤ 200) (hb : b.length ≤ 200) (hp : ∀ j, j ≤ b.length → prev.getD j 0 = ed a b i j) (m : Nat) : m ≤ b.length → ∀ j, j ≤ m → (rowv a b prev i m).getD j 0 = ed a b (i + 1) j := by
  induction m with
  | zero =>
    intro _ j hj
    obtain rfl : j = 0 := by omega
    rfl
  | succ m ih =>
    intro hm j hj
    have ih' := ih (by omega)
    rw [rowv]
    by_cases c : j ≤ m
    · rw [List.getD_eq_getElem?_getD, List.getElem?_append_left (by rw [rowv_length]; omega), ← List.getD_eq_getElem?_getD]
      exact ih' j c
    · obtain rfl : j = m + 1 := by omega
      rw [List.getD_eq_getElem?_getD, List.getElem?_append_right (by rw [rowv_length]; omega), rowv_length, Nat.sub_self]
      show cellv a b prev (rowv a b prev i m) i m = _
      have b1 := ed_bounds a b _ i m rfl
      have b2 := ed_bounds a b _ i (m + 1) rfl
      have b3 := ed_bounds a b _ (i + 1) m rfl
      have n1 := ed_nonneg a b i m
      have n2 := ed_nonneg a b i (m + 1)
      have n3 := ed_nonneg a b (i + 1) m
      unfold cellv
      rw [hp m (by omega), hp (m + 1) (by omega), ih' m (Nat.le_refl _), ed_s, sub1, w64 (x := ed a b i (m + 1) + 1) (by omega) (by omega), w64 (x := ed a b (i + 1) m + 1) (by omega) (by omega), w64 (x := ed a b i m + 1) (by omega) (by omega)]
      by_cases e : a.getD i 0 = b.getD m 0
      · rw [if_pos e, if_pos e, Int.add_zero]
      · rw [if_neg e, if_neg e]
theorem tab_ed (a b : List Int) (hb : b.length ≤ 200) (i : Nat) : i ≤ 200 → ∀ j, j ≤ b.length → (tabv a b i).getD j 0 = ed a b i j := by
  induction i with
  | zero =>
    intro _ j hj
    rw [tabv, ed_0, cnt, List.getD_eq_getElem?_getD, List.getElem?_map, List.getElem?_range (by omega)]
    rfl
  | succ i ih =>
    intro hi j hj
    rw [tabv]
    exact row_ed a b (tabv a b i) i (by omega) hb (ih (by omega)) b.length (Nat.le_refl _) j hj
def dist (a b : List Int) : Int := ed a b a.length b.length
theorem dist_tab (a b : List Int) (ha : a.length ≤ 200) (hb : b.length ≤ 200) : (tabv a b a.length).getD b.length 0 = dist a b := tab_ed a b hb a.length ha b.length (Nat.le_refl _)
theorem dist_comm (a b : List Int) : dist a b = dist b a := ed_comm a b _ _ _ rfl
theorem dist_tri (a c b : List Int) : dist a b ≤ dist a c + dist c b := ed_tri a c b _ _ _ _ rfl
theorem dist_zero (a b : List Int) : dist a b = 0 ↔ a = b := by
  constructor
  · intro h
    obtain ⟨h1, h2⟩ := ed_zero a b _ _ _ rfl h
    exact get_ext h1 (fun j hj => (h2 j (by omega)))
  · rintro rfl
    exact ed_same a a.length
theorem dist_b (a b : List Int) : 0 ≤ dist a b ∧ dist a b ≤ (a.length : Int) + b.length := by
  have h1 := ed_nonneg a b a.length b.length
  have h2 := ed_bounds a b _ a.length b.length rfl
  unfold dist
  omega
def textOf (l : List Int) : List UInt8 := l.flatMap Lib.encodeRune
theorem runes_text (s : ByteArray) (fuel : Nat) : ∀ pos, s.size ≤ pos + fuel → validFrom s fuel pos = true → textOf (impl_Decode.runes s fuel pos) = s.data.toList.drop pos := by
  have hlen : s.data.toList.length = s.size := data_length s
  induction fuel with
  | zero =>
    intro pos hp _
    rw [impl_Decode.runes, List.drop_eq_nil_of_le (by omega)]; rfl
  | succ n ih =>
    intro pos hp hv
    rw [validFrom] at hv
    rw [impl_Decode.runes]
    by_cases h : pos < s.size
    · rw [if_pos h] at hv ⊢
      by_cases hb : badAt s pos = true
      · rw [if_pos hb] at hv; cases hv
      · rw [if_neg hb] at hv
        have hw := Lib.width_pos s pos
        have hb' : ¬ ((Utf8.decode s pos).1 = 65533 ∧ (Utf8.decode s pos).2 = 1) := fun h => hb (decide_eq_true h)
        have hd := decode_drop s pos
        have hne : s.data.toList.drop pos ≠ [] := by
          intro e
          have := congrArg List.length e
          rw [List.length_drop, hlen] at this
          simp at this; omega
        have he := Lib.encode_decode (s.data.toList.drop pos) hne (by rw [hd]; exact hb')
        rw [hd] at he
        have hr := ih (pos + (Utf8.decode s pos).2) (by omega) hv
        show Lib.encodeRune _ ++ textOf _ = _
        rw [he, hr, ← List.drop_drop, List.take_append_drop]
    · rw [if_neg h, List.drop_eq_nil_of_le (by omega)]; rfl

def BytesOK (s : List Int) : Prop := s.length ≤ 1048576 ∧ ∀ i, i < s.length → 0 ≤ s.getD i 0 ∧ s.getD i 0 ≤ 255
def SeedOK (q : Int) : Prop := 0 ≤ q ∧ q < 2147483648
theorem src_byte (s : List Int) (hs : BytesOK s) (at_ q : Int) (h0 : 0 ≤ at_) (h1 : at_ ≤ 1000000000000) (hq : SeedOK q) :
    ∃ v q', spec_l01Src_byte.f s at_ q = some (v, at_ + 1, q') ∧ 0 ≤ v ∧ v ≤ 255 ∧ SeedOK q' := by
  obtain ⟨q0, q1⟩ := hq
  have e1 : Aside0 (wrap64 (at_ + 1) = at_ + 1) := ⟨w64 (by omega) (by omega)⟩
  have e2 : Aside0 (wrap64 (at_ + 1 - 1) = at_) := ⟨by rw [w64 (by omega) (by omega)]; omega⟩
  have hl := hs.1
  unfold spec_l01Src_byte.f
  rw [e1.out, e2.out]
  by_cases c : at_ + 1 ≤ (s.length : Int)
  · rw [if_pos c, if_pos h0, if_pos (by omega)]
    obtain ⟨n, rfl⟩ : ∃ n : Nat, at_ = n := ⟨at_.toNat, by omega⟩
    obtain ⟨b0, b1⟩ := hs.2 n (by omega)
    rw [rd_nat]
    generalize s.getD n 0 = b at *
    have e3 : Aside0 (wrap64 b = b) := ⟨w64 (by omega) (by omega)⟩
    have e4 : Aside0 (wrap64 (q * 31) = q * 31) := ⟨w64 (by omega) (by omega)⟩
    have e5 : Aside0 (wrap64 (q * 31 + b) = q * 31 + b) := ⟨w64 (by omega) (by omega)⟩
    have e6 : Aside0 (wrap64 (q * 31 + b + 7) = q * 31 + b + 7) := ⟨w64 (by omega) (by omega)⟩
    rw [e3.out, e4.out, e5.out, e6.out, Int.tmod_eq_emod_of_nonneg (by omega)]
    exact ⟨_, _, rfl, b0, b1, by omega, by omega⟩
  · rw [if_neg c]
    by_cases c2 : at_ + 1 > wrap64 (4000 + wrap64 (4 * (s.length : Int)))
    · rw [if_pos c2]; exact ⟨_, _, rfl, by omega, by omega, q0, q1⟩
    · rw [if_neg c2]
      have e4 : Aside0 (wrap64 (q * 1103515245) = q * 1103515245) := ⟨w64 (by omega) (by omega)⟩
      have e5 : Aside0 (wrap64 (q * 1103515245 + 12345) = q * 1103515245 + 12345) := ⟨w64 (by omega) (by omega)⟩
      rw [e4.out, e5.out, Int.tmod_eq_emod_of_nonneg (a := q * 1103515245 + 12345) (by omega)]
      generalize hz : (q * 1103515245 + 12345) % 2147483648 = z
      have z0 : 0 ≤ z := by omega
      have z1 : z < 2147483648 := by omega
      clear hz e4 e5 c2
      have e7 : Aside0 (wrap64 (Int.tdiv z 65536) = z / 65536) := ⟨by rw [Int.tdiv_eq_ediv_of_nonneg z0, w64 (by omega) (by omega)]⟩
      rw [e7.out, Int.tmod_eq_emod_of_nonneg (by omega)]
      exact ⟨_, _, rfl, by omega, by omega, z0, z1⟩
theorem src_next (s : List Int) (hs : BytesOK s) (at_ q n : Int) (h0 : 0 ≤ at_) (h1 : at_ ≤ 100000000000) (hq : SeedOK q) (hn : 1 ≤ n) :
    ∃ v a' q', spec_l01Src_next.f s at_ q n = some (v, a', q') ∧ 0 ≤ v ∧ v < n ∧ at_ ≤ a' ∧ a' ≤ at_ + 3 ∧ SeedOK q' := by
  unfold spec_l01Src_next.f
  by_cases c1 : n ≤ 1
  · rw [if_pos c1]; exact ⟨_, _, _, rfl, by omega, by omega, by omega, by omega, hq⟩
  · rw [if_neg c1]
    obtain ⟨v1, q1, e1, b1, d1, hq1⟩ := src_byte s hs at_ q h0 (by omega) hq
    rw [e1]
    by_cases c2 : n ≤ 256
    · rw [if_pos c2, Option.bind_some, if_neg (by omega)]
      simp only
      rw [Int.tmod_eq_emod_of_nonneg b1]
      exact ⟨_, _, _, rfl, Int.emod_nonneg _ (by omega), Int.emod_lt_of_pos _ (by omega), by omega, by omega, hq1⟩
    · obtain ⟨v2, q2, e2, b2, d2, hq2⟩ := src_byte s hs (at_ + 1) q1 (by omega) (by omega) hq1
      obtain ⟨v3, q3, e3, b3, d3, hq3⟩ := src_byte s hs (at_ + 1 + 1) q2 (by omega) (by omega) hq2
      rw [if_neg c2]
      simp only [Option.bind_some]
      rw [e2]
      simp only [Option.bind_some]
      rw [e3]
      simp only [Option.bind_some]
      rw [if_neg (by omega)]
      have w1 : Aside0 (wrap64 (v1 * 65536) = v1 * 65536) := ⟨w64 (by omega) (by omega)⟩
      have w2 : Aside0 (wrap64 (v2 * 256) = v2 * 256) := ⟨w64 (by omega) (by omega)⟩
      have w3 : Aside0 (wrap64 (v1 * 65536 + v2 * 256) = v1 * 65536 + v2 * 256) := ⟨w64 (by omega) (by omega)⟩
      have w4 : Aside0 (wrap64 (v1 * 65536 + v2 * 256 + v3) = v1 * 65536 + v2 * 256 + v3) := ⟨w64 (by omega) (by omega)⟩
      rw [w1.out, w2.out, w3.out, w4.out, Int.tmod_eq_emod_of_nonneg (by omega)]
      exact ⟨_, _, _, rfl, Int.emod_nonneg _ (by omega), Int.emod_lt_of_pos _ (by omega), by omega, by omega, hq3⟩
theorem src_start (l : List Int) (h : l.length ≤ 1048576) : ∃ q, spec_l01Source.f l = some (l, 0, q) ∧ SeedOK q := by
  unfold spec_l01Source.f
  exact ⟨_, rfl, by omega, by omega⟩

theorem word_ex2 (s : List Int) (hs : BytesOK s) (at_ q : Int) (h0 : 0 ≤ at_) (h1 : at_ ≤ 10000000000) (hq : SeedOK q) :
    ∃ t a' q', spec_l01Src_word.f s at_ q = some (t, a', q') ∧ t.size ≤ 8 ∧ at_ ≤ a' ∧ a' ≤ at_ + 3 ∧ SeedOK q' := by
  unfold spec_l01Src_word.f
  rw [Option.bind_some]
  generalize hy : ([(⟨#[114, 117, 110]⟩ : ByteArray), (⟨#[114, 117, 110, 110, 105, 110, 103]⟩ : ByteArray), (⟨#[114, 117, 110, 115]⟩ : ByteArray), (⟨#[114, 97, 110]⟩ : ByteArray), (⟨#[99, 97, 116]⟩ : ByteArray), (⟨#[99, 97, 116, 115]⟩ : ByteArray), (⟨#[116, 104, 101]⟩ : ByteArray), (⟨#[111, 102]⟩ : ByteArray), (⟨#[104, 111, 117, 115, 101]⟩ : ByteArray), (⟨#[104, 111, 117, 115, 101, 115]⟩ : ByteArray), (⟨#[113, 117, 105, 99, 107]⟩ : ByteArray), (⟨#[102, 111, 120]⟩ : ByteArray), (⟨#[105, 116, 39, 115]⟩ : ByteArray), (⟨#[120, 95, 49]⟩ : ByteArray), (⟨#[195, 156, 98, 101, 114]⟩ : ByteArray), (⟨#[99, 97, 102, 195, 169]⟩ : ByteArray), (⟨#[67, 97, 116]⟩ : ByteArray), (⟨#[52, 50]⟩ : ByteArray), (⟨#[55]⟩ : ByteArray), (⟨#[208, 150, 97, 114]⟩ : ByteArray), (⟨#[228, 184, 173]⟩ : ByteArray), (⟨#[206, 169, 109, 101, 103, 97]⟩ : ByteArray), (⟨#[115, 116, 111, 112, 112, 101, 100]⟩ : ByteArray), (⟨#[113, 117, 105, 99, 107, 108, 121]⟩ : ByteArray), (⟨#[108, 97, 100, 105, 101, 115]⟩ : ByteArray)] : List ByteArray) = y
  have hz : ∀ x ∈ y, x.size ≤ 8 := by rw [← hy]; decide
  have hl : y.length = 25 := by rw [← hy]; rfl
  clear hy
  obtain ⟨v, a', q', e, b0, b1, b2, b3, hq'⟩ := src_next s hs at_ q (y.length : Int) h0 (by omega) hq (by omega)
  rw [e, Option.bind_some]
  simp only
  rw [if_pos b0, if_pos b1]
  refine ⟨_, _, _, rfl, ?_, by omega, b3, hq'⟩
  obtain ⟨i, rfl⟩ : ∃ i : Nat, v = i := ⟨v.toNat, by omega⟩
  have hi : i < y.length := by omega
  rw [rdOf, Int.toNat_natCast, List.getD_eq_getElem?_getD, List.getElem?_eq_getElem hi]
  exact hz _ (List.getElem_mem hi)

theorem src_chance (s : List Int) (hs : BytesOK s) (at_ q n : Int) (h0 : 0 ≤ at_) (h1 : at_ ≤ 100000000000) (hq : SeedOK q) (hn : 1 ≤ n) :
    ∃ b a' q', spec_l01Src_chance.f s at_ q n = some (b, a', q') ∧ at_ ≤ a' ∧ a' ≤ at_ + 3 ∧ SeedOK q' := by
  obtain ⟨v, a', q', e, b0, b1, b2, b3, hq'⟩ := src_next s hs at_ q n h0 h1 hq hn
  unfold spec_l01Src_chance.f
  rw [e, Option.bind_some]
  exact ⟨_, _, _, rfl, b2, b3, hq'⟩
theorem strOfNums_size (l : List Int) : (strOfNums l).size = l.length := by simp [strOfNums, ByteArray.size]
theorem spoil_ex (s : List Int) (hs : BytesOK s) (at_ q : Int) (h0 : 0 ≤ at_) (h1 : at_ ≤ 1000000000) (hq : SeedOK q) (t : ByteArray) (ht : t.size ≤ 1000000) :
    ∃ u a' q', spec_l01Src_spoil.f s at_ q t = some (u, a', q') ∧ at_ ≤ a' ∧ a' ≤ at_ + 10 ∧ SeedOK q' := by
  obtain ⟨v1, a1, q1, e1, b1, b1', c1, c1', hq1⟩ := src_next s hs at_ q 3 h0 (by omega) hq (by omega)
  unfold spec_l01Src_spoil.f
  rw [if_pos (by omega), e1, Option.bind_some]
  simp only
  by_cases k0 : v1 = 0
  · rw [if_pos k0]
    obtain ⟨v2, q2, e2, _, _, hq2⟩ := src_byte s hs a1 q1 (by omega) (by omega) hq1
    rw [e2, Option.bind_some]
    exact ⟨_, _, _, rfl, by simp only; omega, by simp only; omega, hq2⟩
  · rw [if_neg k0]
    by_cases k1 : v1 = 1
    · rw [if_pos k1]
      by_cases hp : (0 : Int) < (t.size : Int)
      · rw [if_pos hp]
        obtain ⟨v2, a2, q2, e2, b2, b2', c2, c2', hq2⟩ := src_next s hs a1 q1 (t.size : Int) (by omega) (by omega) hq1 (by omega)
        rw [e2, Option.bind_some]
        simp only
        rw [if_pos b2, if_pos (by omega)]
        exact ⟨_, _, _, rfl, by omega, by omega, hq2⟩
      · rw [if_neg hp]
        exact ⟨_, _, _, rfl, by omega, by omega, hq1⟩
    · rw [if_neg k1]
      by_cases hp : (0 : Int) < (t.size : Int)
      · rw [if_pos hp]
        obtain ⟨v2, a2, q2, e2, b2, b2', c2, c2', hq2⟩ := src_next s hs a1 q1 (t.size : Int) (by omega) (by omega) hq1 (by omega)
        obtain ⟨v3, q3, e3, _, _, hq3⟩ := src_byte s hs a2 q2 (by omega) (by omega) hq2
        rw [e2, Option.bind_some]
        simp only
        rw [e3, Option.bind_some]
        simp only
        rw [if_pos b2, if_pos b2']
        exact ⟨_, _, _, rfl, by omega, by omega, hq3⟩
      · rw [if_neg hp]
        exact ⟨_, _, _, rfl, by omega, by omega, hq1⟩

theorem bl_tri : ∀ x y : List UInt8, (Op.bytesLess x y || x == y) = !(Op.bytesLess y x)
  | [], [] => rfl
  | [], _ :: _ => rfl
  | _ :: _, [] => rfl
  | a :: x, b :: y => by
    have ih := bl_tri x y
    simp only [Op.bytesLess, List.cons_beq_cons]
    by_cases h1 : a < b
    · have h2 : ¬ b < a := fun h => absurd (UInt8.lt_iff_toNat_lt.1 h) (by have := UInt8.lt_iff_toNat_lt.1 h1; omega)
      have h3 : ¬ b = a := fun h => by subst h; exact h2 h1
      simp [h1, h2, h3]
    · by_cases h2 : b < a
      · have h3 : ¬ a = b := fun h => by subst h; exact h1 h2
        simp [h1, h2, h3]
      · have h3 : a = b := UInt8.toNat_inj.1 (by have h5 : ¬ a.toNat < b.toNat := fun h => h1 (UInt8.lt_iff_toNat_lt.2 h); have h6 : ¬ b.toNat < a.toNat := fun h => h2 (UInt8.lt_iff_toNat_lt.2 h); omega)
        subst h3
        simp only [h1, decide_false, Bool.false_or, BEq.rfl, Bool.true_and]
        simpa using ih
theorem bl_le_trans : ∀ x y z : List UInt8, Op.bytesLess y x = false → Op.bytesLess z y = false → Op.bytesLess z x = false
  | [], _, z, _, _ => by cases z <;> rfl
  | _ :: _, [], _, h, _ => by cases h
  | _ :: _, _ :: _, [], _, h => by cases h
  | a :: x, b :: y, c :: z, h1, h2 => by
    simp only [Op.bytesLess, Bool.or_eq_false_iff, decide_eq_false_iff_not, Bool.and_eq_false_iff, beq_eq_false_iff_ne] at *
    have n1 : ¬ b.toNat < a.toNat := fun h => h1.1 (UInt8.lt_iff_toNat_lt.2 h)
    have n2 : ¬ c.toNat < b.toNat := fun h => h2.1 (UInt8.lt_iff_toNat_lt.2 h)
    refine ⟨fun h => by have := UInt8.lt_iff_toNat_lt.1 h; omega, ?_⟩
    by_cases e : c = a
    · right
      have e' := congrArg UInt8.toNat e
      have e1 : b = a := UInt8.toNat_inj.1 (by omega)
      have e2 : c = b := UInt8.toNat_inj.1 (by omega)
      exact bl_le_trans x y z (h1.2.resolve_left (fun h => h e1)) (h2.2.resolve_left (fun h => h e2))
    · exact .inl e
theorem toList_inj {s t : ByteArray} (h : s.toList = t.toList) : s = t := by
  rw [Lib.toList_data, Lib.toList_data] at h
  have := Array.toList_inj.1 h
  cases s; cases t; simp only at this; rw [this]
abbrev NP := ByteArray × Int
theorem le_total (a b : NP) (h : impl_Suggest.le a b = false) : impl_Suggest.le b a = true := by
  unfold impl_Suggest.le at *
  simp only [Bool.or_eq_false_iff, decide_eq_false_iff_not, Bool.and_eq_false_iff, Bool.not_eq_false', Bool.or_eq_true, decide_eq_true_eq, Bool.and_eq_true, Bool.not_eq_true'] at *
  by_cases c : a.2 = b.2
  · right
    refine ⟨c.symm, ?_⟩
    have h2 := h.2.resolve_left (fun h => h c)
    have t := bl_tri b.1.toList a.1.toList
    rw [h2, Bool.true_or] at t
    simpa using t.symm
  · left; omega
theorem le_trans (a b c : NP) (h1 : impl_Suggest.le a b = true) (h2 : impl_Suggest.le b c = true) : impl_Suggest.le a c = true := by
  unfold impl_Suggest.le at *
  simp only [Bool.or_eq_true, decide_eq_true_eq, Bool.and_eq_true, Bool.not_eq_true'] at *
  rcases h1 with h1 | ⟨h1, g1⟩
  · rcases h2 with h2 | ⟨h2, _⟩
    · left; omega
    · left; omega
  · rcases h2 with h2 | ⟨h2, g2⟩
    · left; omega
    · right; exact ⟨by omega, bl_le_trans _ _ _ g1 g2⟩
theorem sort_perm (l : List NP) : List.Perm (impl_Suggest.sort l) l := List.mergeSort_perm _ _
theorem sort_sorted (l : List NP) : (impl_Suggest.sort l).Pairwise (fun x y => impl_Suggest.le x y = true) :=
  List.pairwise_mergeSort (fun a b c h1 h2 => le_trans a b c h1 h2) (fun a b => by
    cases h : impl_Suggest.le a b with
    | true => rfl
    | false => rw [le_total a b h]; rfl) l
theorem tell_ge (s t : ByteArray) : 0 ≤ (editsTell s t).1 := by
  unfold editsTell
  split
  · exact Int.le_refl 0
  · split
    · split
      · split
        · exact Int.le_refl 0
        · split
          · exact Int.le_refl 0
          · show 0 ≤ (tabv _ _ _).getD _ 0
            rw [dist_tab _ _ (by omega) (by omega)]
            exact (dist_b _ _).1
      · exact Int.le_refl 0
    · exact Int.le_refl 0
def nearL (x : ByteArray) : List ByteArray → List ByteArray → List NP
  | [], _ => []
  | w :: t, seen => if seen.any (fun s => s.toList == w.toList) = true then nearL x t seen else if (editsTell x w).2 = 0 ∧ (editsTell x w).1 ≤ 2 then (w, (editsTell x w).1) :: nearL x t (w :: seen) else nearL x t (w :: seen)
theorem near_ev (x : ByteArray) : ∀ (l seen : List ByteArray), Ev (fun k => impl_Suggest.near k x l seen) (nearL x l seen)
  | [], _ => Ev.now _
  | w :: t, seen => by
    unfold impl_Suggest.near nearL
    by_cases c : seen.any (fun s => s.toList == w.toList) = true
    · rw [if_pos c]
      exact Ev.pos c (near_ev x t seen)
    · rw [if_neg c]
      refine Ev.neg c (Ev.bind (impl_Edits_eq x w) (Ev.pos (tell_ge x w) (Ev.bind (near_ev x t (w :: seen)) ?_)))
      by_cases c2 : (editsTell x w).2 = 0 ∧ (editsTell x w).1 ≤ 2
      · simp only [if_pos c2]; exact Ev.now _
      · simp only [if_neg c2]; exact Ev.now _
theorem near_mem (x : ByteArray) : ∀ (l seen : List ByteArray), ∀ p ∈ nearL x l seen, p.1 ∈ l ∧ p.2 = (editsTell x p.1).1 ∧ (editsTell x p.1).2 = 0 ∧ p.2 ≤ 2 ∧ ∀ s ∈ seen, s.toList ≠ p.1.toList
  | [], _, p, hp => by cases hp
  | w :: t, seen, p, hp => by
    unfold nearL at hp
    have up : ∀ seen', (∀ s ∈ seen, s ∈ seen') → p ∈ nearL x t seen' → p.1 ∈ w :: t ∧ p.2 = (editsTell x p.1).1 ∧ (editsTell x p.1).2 = 0 ∧ p.2 ≤ 2 ∧ ∀ s ∈ seen, s.toList ≠ p.1.toList := fun seen' hs h => by
      obtain ⟨h1, h2, h3, h4, h5⟩ := near_mem x t seen' p h
      exact ⟨List.mem_cons_of_mem _ h1, h2, h3, h4, fun s hs' => h5 s (hs s hs')⟩
    by_cases c : seen.any (fun s => s.toList == w.toList) = true
    · rw [if_pos c] at hp; exact up seen (fun _ h => h) hp
    · rw [if_neg c] at hp
      by_cases c2 : (editsTell x w).2 = 0 ∧ (editsTell x w).1 ≤ 2
      · rw [if_pos c2] at hp
        rcases List.mem_cons.1 hp with rfl | hp
        · refine ⟨List.mem_cons_self .., rfl, c2.1, c2.2, fun s hs h => c (List.any_eq_true.2 ⟨s, hs, beq_iff_eq.2 h⟩)⟩
        · exact up _ (fun _ h => List.mem_cons_of_mem _ h) hp
      · rw [if_neg c2] at hp; exact up _ (fun _ h => List.mem_cons_of_mem _ h) hp
theorem near_ne (x : ByteArray) : ∀ (l seen : List ByteArray), (nearL x l seen).Pairwise (fun a b => a.1.toList ≠ b.1.toList)
  | [], _ => List.Pairwise.nil
  | w :: t, seen => by
    unfold nearL
    split
    · exact near_ne x t seen
    · split
      · refine List.pairwise_cons.2 ⟨fun p hp => ?_, near_ne x t _⟩
        exact (near_mem x t (w :: seen) p hp).2.2.2.2 w (List.mem_cons_self ..)
      · exact near_ne x t _
theorem near_all (x : ByteArray) : ∀ (l seen : List ByteArray), ∀ w ∈ l, (editsTell x w).2 = 0 → (editsTell x w).1 ≤ 2 → (∀ s ∈ seen, s.toList ≠ w.toList) → (w, (editsTell x w).1) ∈ nearL x l seen
  | [], _, _, h, _, _, _ => by cases h
  | v :: t, seen, w, hw, h2, h1, hs => by
    unfold nearL
    by_cases e : v.toList = w.toList
    · obtain rfl := toList_inj e
      rw [if_neg (fun h => by
        obtain ⟨s, hs', he⟩ := List.any_eq_true.1 h
        exact hs s hs' (beq_iff_eq.1 he)), if_pos ⟨h2, h1⟩]
      exact List.mem_cons_self ..
    · have hw' : w ∈ t := (List.mem_cons.1 hw).resolve_left (fun h => e (by rw [h]))
      have hs2 : ∀ s ∈ v :: seen, s.toList ≠ w.toList := fun s h => by
        rcases List.mem_cons.1 h with rfl | h
        · exact e
        · exact hs s h
      split
      · exact near_all x t seen w hw' h2 h1 hs
      · split
        · exact List.mem_cons_of_mem _ (near_all x t _ w hw' h2 h1 hs2)
        · exact near_all x t _ w hw' h2 h1 hs2
theorem spoil_ex2 (s : List Int) (hs : BytesOK s) (at_ q : Int) (h0 : 0 ≤ at_) (h1 : at_ ≤ 1000000000) (hq : SeedOK q) (t : ByteArray) (ht : t.size ≤ 1000000) :
    ∃ u a' q', spec_l01Src_spoil.f s at_ q t = some (u, a', q') ∧ u.size ≤ t.size + 1 ∧ at_ ≤ a' ∧ a' ≤ at_ + 10 ∧ SeedOK q' := by
  obtain ⟨u, a', q', e, h2, h3, h4⟩ := spoil_ex s hs at_ q h0 h1 hq t ht
  refine ⟨u, a', q', e, ?_, h2, h3, h4⟩
  have hb := bytesOf_length t
  unfold spec_l01Src_spoil.f at e
  rw [if_pos (by omega)] at e
  obtain ⟨b1, _, e⟩ := Option.bind_eq_some_iff.1 e
  have fin : ∀ l : List Int, l.length ≤ t.size + 1 → ∀ y z : Int, some (strOfNums l, y, z) = some (u, a', q') → u.size ≤ t.size + 1 := fun l hl y z h => by
    simp only [Option.some.injEq, Prod.mk.injEq] at h
    rw [← h.1, strOfNums_size]; exact hl
  by_cases c0 : b1.1 = 0
  · rw [if_pos c0] at e
    obtain ⟨b2, _, e⟩ := Option.bind_eq_some_iff.1 e
    exact fin _ (by rw [List.length_append, hb]; simp) _ _ e
  · rw [if_neg c0] at e
    by_cases c1 : b1.1 = 1
    · rw [if_pos c1] at e
      by_cases c2 : 0 < (t.size : Int)
      · rw [if_pos c2] at e
        obtain ⟨b2, _, e⟩ := Option.bind_eq_some_iff.1 e
        by_cases c3 : 0 ≤ b2.1
        · rw [if_pos c3] at e
          by_cases c4 : b2.1 ≤ (t.size : Int)
          · rw [if_pos c4] at e
            exact fin _ (by rw [List.length_take, hb]; omega) _ _ e
          · rw [if_neg c4] at e; cases e
        · rw [if_neg c3] at e; cases e
      · rw [if_neg c2] at e
        exact fin _ (by rw [hb]; omega) _ _ e
    · rw [if_neg c1] at e
      by_cases c2 : 0 < (t.size : Int)
      · rw [if_pos c2] at e
        obtain ⟨b2, _, e⟩ := Option.bind_eq_some_iff.1 e
        obtain ⟨b3, _, e⟩ := Option.bind_eq_some_iff.1 e
        by_cases c3 : 0 ≤ b2.1
        · rw [if_pos c3] at e
          by_cases c4 : b2.1 < (t.size : Int)
          · rw [if_pos c4] at e
            exact fin _ (by rw [List.length_set, hb]; omega) _ _ e
          · rw [if_neg c4] at e; cases e
        · rw [if_neg c3] at e; cases e
      · rw [if_neg c2] at e
        exact fin _ (by rw [hb]; omega) _ _ e
theorem repeat_ev (n : Nat) (hn : n ≤ 1000) (d : Nat) : ∀ (i : Nat) (acc : List Int), i + d = n → acc.length = i → ∃ t : ByteArray, t.size = n ∧ Ev (fun k => spec_l01Repeat.l0 k (⟨#[115]⟩ : ByteArray) (n : Int) acc (i : Int)) t := by
  have h1 : (⟨#[115]⟩ : ByteArray).size = 1 := rfl
  induction d with
  | zero =>
    intro i acc hi ha
    exact ⟨strOfNums acc, by rw [strOfNums_size]; omega, Ev.step (fun k => by rw [spec_l01Repeat.l0, if_neg (by omega)]) (Ev.now _)⟩
  | succ d ih =>
    intro i acc hi ha
    obtain ⟨t, ht, h⟩ := ih (i + 1) (acc ++ bytesOf (⟨#[115]⟩ : ByteArray)) (by omega) (by rw [List.length_append, bytesOf_length, h1]; omega)
    have w : wrap64 ((i : Int) + 1) = ((i + 1 : Nat) : Int) := by rw [w64 (by omega) (by omega)]; omega
    exact ⟨t, ht, Ev.step (fun k => by rw [spec_l01Repeat.l0, if_pos (by omega), if_pos (by rw [h1]; omega), w]) h⟩
def okW (w : ByteArray) : Prop := w.size ≤ 65536
theorem draw_j2 (s : List Int) (hs : BytesOK s) (at_ q : Int) (h0 : 0 ≤ at_) (h1 : at_ ≤ 1000000) (hq : SeedOK q) (ws : List ByteArray) (t : ByteArray) : ∃ n : Int, Ev (fun k => spec_DrawSuggest.j2 k ws t s at_ q) (ws, t, n) := by
  obtain ⟨v, a1, q1, e1, b0, b1, c0, c1, hq1⟩ := src_next s hs at_ q 8 h0 (by omega) hq (by omega)
  obtain ⟨b, a2, q2, e2, d0, d1, hq2⟩ := src_chance s hs a1 q1 10 (by omega) (by omega) hq1 (by omega)
  cases b with
  | false =>
    refine ⟨v, Ev.step (fun k => by rw [spec_DrawSuggest.j2]) (Ev.bind (Ev.ofEq e1) (Ev.bind (Ev.ofEq e2) ?_))⟩
    refine Ev.neg Bool.false_ne_true ?_
    exact Ev.now _
  | true =>
    obtain ⟨x, a3, q3, e3, f0, f1, _, _, _⟩ := src_next s hs a2 q2 3 (by omega) (by omega) hq2 (by omega)
    refine ⟨rd [(-1), 20, 21] x, Ev.step (fun k => by rw [spec_DrawSuggest.j2]) (Ev.bind (Ev.ofEq e1) (Ev.bind (Ev.ofEq e2) ?_))⟩
    refine Ev.pos rfl (Ev.bind (Ev.now _) (Ev.bind (Ev.ofEq e3) ?_))
    refine Ev.pos f0 ?_
    refine Ev.pos (by simpa using f1) ?_
    exact Ev.now _
theorem draw_l0 (s : List Int) (hs : BytesOK s) (d : Nat) : ∀ (at_ q : Int) (ws : List ByteArray), 0 ≤ at_ → at_ + 3 * d ≤ 100000 → SeedOK q → (∀ w ∈ ws, okW w) → ws.length + d ≤ 1000 →
    ∃ (words : List ByteArray) (t : ByteArray) (n : Int), words.length ≤ ws.length + d + 2 ∧ (∀ w ∈ words, okW w) ∧ okW t ∧ Ev (fun k => spec_DrawSuggest.l0 k ws (d : Int) s at_ q) (words, t, n) := by
  induction d with
  | zero =>
    intro at_ q ws h0 h1 hq hw hl
    obtain ⟨t, a1, q1, e1, z1, b0, b1, hq1⟩ := word_ex2 s hs at_ q h0 (by omega) hq
    obtain ⟨v, a2, q2, e2, c0, c1, d0, d1, hq2⟩ := src_next s hs a1 q1 12 (by omega) (by omega) hq1 (by omega)
    have ht : okW t := by unfold okW; omega
    have step : ∀ r, Ev (fun k => if v = 0 then (spec_DrawSuggest.j1 k ws t v (v == 0) s a2 q2) else (spec_DrawSuggest.j1 k ws t v (v == 1) s a2 q2)) r → Ev (fun k => spec_DrawSuggest.l0 k ws ((0 : Nat) : Int) s at_ q) r := fun r h =>
      Ev.step (fun k => by rw [spec_DrawSuggest.l0, if_neg (by omega)]) (Ev.bind (Ev.ofEq e1) (Ev.bind (Ev.ofEq e2) h))
    have first : ∃ (words : List ByteArray) (t' : ByteArray) (n : Int), words.length ≤ ws.length + 0 + 2 ∧ (∀ w ∈ words, okW w) ∧ okW t' ∧ Ev (fun k => spec_DrawSuggest.j1 k ws t v true s a2 q2) (words, t', n) := by
      obtain ⟨u, a3, q3, e3, z3, f0, f1, hq3⟩ := spoil_ex2 s hs a2 q2 (by omega) (by omega) hq2 t (by omega)
      obtain ⟨n, hn⟩ := draw_j2 s hs a3 q3 (by omega) (by omega) hq3 ws u
      exact ⟨ws, u, n, by omega, hw, by unfold okW; omega, Ev.step (fun k => by rw [spec_DrawSuggest.j1]) (Ev.pos rfl (Ev.bind (Ev.ofEq e3) hn))⟩
    by_cases k0 : v = 0
    · obtain ⟨words, t', n, g1, g2, g3, g4⟩ := first
      refine ⟨words, t', n, g1, g2, g3, step _ (Ev.pos k0 ?_)⟩
      rw [show (v == 0) = true from beq_iff_eq.2 k0]; exact g4
    · by_cases k1 : v = 1
      · obtain ⟨words, t', n, g1, g2, g3, g4⟩ := first
        refine ⟨words, t', n, g1, g2, g3, step _ (Ev.neg k0 ?_)⟩
        rw [show (v == 1) = true from beq_iff_eq.2 k1]; exact g4
      · have e1' : (v == 1) = false := beq_eq_false_iff_ne.2 k1
        have step2 : ∀ r, Ev (fun k => spec_DrawSuggest.j1 k ws t v false s a2 q2) r → Ev (fun k => spec_DrawSuggest.l0 k ws ((0 : Nat) : Int) s at_ q) r := fun r h => step r (Ev.neg k0 (by rw [e1']; exact h))
        by_cases k2 : v = 2
        · obtain ⟨u, a3, q3, e3, z3, f0, f1, hq3⟩ := spoil_ex2 s hs a2 q2 (by omega) (by omega) hq2 t (by omega)
          obtain ⟨n, hn⟩ := draw_j2 s hs a3 q3 (by omega) (by omega) hq3 (ws ++ [u]) t
          refine ⟨ws ++ [u], t, n, by rw [List.length_append, List.length_singleton]; omega, fun w hw' => ?_, ht, step2 _ (Ev.step (fun k => by rw [spec_DrawSuggest.j1]) (Ev.neg Bool.false_ne_true (Ev.pos k2 (Ev.bind (Ev.ofEq e3) ?_))))⟩
          · rcases List.mem_append.1 hw' with h | h
            · exact hw w h
            · rw [List.mem_singleton.1 h]; unfold okW; omega
          · refine Ev.pos (by omega) ?_
            exact hn
        · by_cases k3 : v = 3
          · obtain ⟨x, a3, q3, e3, f0, f1, f2, f3, hq3⟩ := src_next s hs a2 q2 2 (by omega) (by omega) hq2 (by omega)
            obtain ⟨m, rfl⟩ := Int.eq_ofNat_of_zero_le f0
            obtain ⟨rt, hrt, hre⟩ := repeat_ev (200 + m) (by omega) (200 + m) 0 [] (by omega) rfl
            have hm2 : m < 2 := by omega
            have wr : Aside0 (wrap64 (200 + (m : Int)) = ((200 + m : Nat) : Int)) := ⟨by clear hre; rw [w64 (by omega) (by omega)]; omega⟩
            have hre' : Ev (fun k => spec_l01Repeat.f k (⟨#[115]⟩ : ByteArray) (wrap64 (200 + (m : Int)))) rt := by
              unfold spec_l01Repeat.f; rw [wr.out]; exact hre
            obtain ⟨n, hn⟩ := draw_j2 s hs a3 q3 (by omega) (by omega) hq3 (ws ++ [rt ++ (⟨#[115]⟩ : ByteArray), rt]) rt
            have hr : okW rt := by unfold okW; rw [hrt]; omega
            refine ⟨ws ++ [rt ++ (⟨#[115]⟩ : ByteArray), rt], rt, n, by simp only [List.length_append, List.length_cons, List.length_nil]; omega, fun w hw' => ?_, hr, step2 _ (Ev.step (fun k => by rw [spec_DrawSuggest.j1]) (Ev.neg Bool.false_ne_true (Ev.neg k2 (Ev.pos k3 (Ev.bind (Ev.ofEq e3) (Ev.bind hre' ?_))))))⟩
            · rcases List.mem_append.1 hw' with h | h
              · exact hw w h
              · rcases List.mem_cons.1 h with rfl | h
                · show (rt ++ (⟨#[115]⟩ : ByteArray)).size ≤ 65536
                  rw [ByteArray.size_append]
                  have : (⟨#[115]⟩ : ByteArray).size = 1 := rfl
                  rw [this, hrt]; omega
                · rw [List.mem_singleton.1 h]; exact hr
            · refine Ev.pos (by rw [hrt]; omega) (Ev.bind (Ev.now _) ?_)
              refine Ev.pos (by simp only [List.length_cons, List.length_nil]; omega) ?_
              exact hn
          · obtain ⟨n, hn⟩ := draw_j2 s hs a2 q2 (by omega) (by omega) hq2 ws t
            exact ⟨ws, t, n, by omega, hw, ht, step2 _ (Ev.step (fun k => by rw [spec_DrawSuggest.j1]) (Ev.neg Bool.false_ne_true (Ev.neg k2 (Ev.neg k3 hn))))⟩
  | succ d ih =>
    intro at_ q ws h0 h1 hq hw hl
    obtain ⟨t, a1, q1, e1, z1, b0, b1, hq1⟩ := word_ex2 s hs at_ q h0 (by omega) hq
    obtain ⟨words, t', n, g1, g2, g3, g4⟩ := ih a1 q1 (ws ++ [t]) (by omega) (by omega) hq1 (fun w hw' => by
      rcases List.mem_append.1 hw' with h | h
      · exact hw w h
      · rw [List.mem_singleton.1 h]; unfold okW; omega) (by rw [List.length_append, List.length_singleton]; omega)
    rw [List.length_append, List.length_singleton] at g1
    have w : Aside0 (wrap64 (((d + 1 : Nat) : Int) - 1) = (d : Int)) := ⟨by rw [w64 (by omega) (by omega)]; omega⟩
    refine ⟨words, t', n, by omega, g2, g3, Ev.step (fun k => by rw [spec_DrawSuggest.l0, if_pos (by omega), w.out]) (Ev.bind (Ev.ofEq e1) ?_)⟩
    refine Ev.pos (by omega) ?_
    exact g4
theorem draw_all (l : List Int) (hl : l.length ≤ 1048576) (hs : BytesOK l) : ∃ (words : List ByteArray) (t : ByteArray) (n : Int), words.length ≤ 100 ∧ (∀ w ∈ words, okW w) ∧ okW t ∧ Ev (fun k => spec_DrawSuggest.f k l) (words, t, n) := by
  obtain ⟨q, e0, hq⟩ := src_start l hl
  have hm : ∃ m : Int, 1 ≤ m ∧ m ≤ 30 ∧ spec_l01Src_size.f l 0 q 30 = some (m, 0, q) := by
    unfold spec_l01Src_size.f
    have h1 : 0 ≤ (l.length : Int) / 12 ∧ (l.length : Int) / 12 ≤ 1048576 := by omega
    rw [w64 (x := (l.length : Int) / 12) (by omega) (by omega), w64 (by omega) (by omega)]
    refine ⟨_, ?_, ?_, rfl⟩ <;> (unfold mn; split <;> omega)
  obtain ⟨m, m0, m1, e1⟩ := hm
  have w : wrap64 (m + 1) = m + 1 := w64 (by omega) (by omega)
  obtain ⟨v, a1, q1, e2, b0, b1, c0, c1, hq1⟩ := src_next l hs 0 q (m + 1) (by omega) (by omega) hq (by omega)
  obtain ⟨j, rfl⟩ := Int.eq_ofNat_of_zero_le b0
  obtain ⟨words, t, n, g1, g2, g3, g4⟩ := draw_l0 l hs j a1 q1 [] (by omega) (by omega) hq1 (by simp) (by simp only [List.length_nil]; omega)
  refine ⟨words, t, n, by simp only [List.length_nil] at g1; omega, g2, g3, ?_⟩
  unfold spec_DrawSuggest.f
  refine Ev.bind (Ev.ofEq e0) (Ev.bind (Ev.ofEq e1) ?_)
  simp only [w]
  exact Ev.bind (Ev.ofEq e2) g4
theorem rdS (xs : List ByteArray) (i : Nat) (hi : i < xs.length) : rdOf ByteArray.empty xs (i : Int) = xs[i] := by rw [rdOf, Int.toNat_natCast, List.getD_eq_getElem?_getD, List.getElem?_eq_getElem hi]; rfl
theorem rdS0 (a : ByteArray) (xs : List ByteArray) : rdOf ByteArray.empty (a :: xs) 0 = a := rfl
def Good (r : List ByteArray) (n : Nat) : Prop := r.length ≤ n ∧ ∀ w ∈ r, okW w
theorem names_j3 (x3 x4 x5 : List ByteArray) (x6 : ByteArray) (n : Nat) (h5 : x5.length ≤ 10000) (h6 : okW x6) (h5' : ∀ w ∈ x5, okW w)
    (h : ∀ y5 : List ByteArray, y5.length ≤ x5.length + 1 → (∀ w ∈ y5, okW w) → ∃ r, Good r n ∧ Ev (fun k => spec_l07Names.l0 k x3 x4 y5) r) : ∃ r, Good r n ∧ Ev (fun k => spec_l07Names.j3 k x3 x4 x5 x6) r := by
  have add : ∃ r, Good r n ∧ Ev (fun k => spec_l07Names.l0 k x3 x4 (x5 ++ [x6])) r := h _ (by rw [List.length_append, List.length_singleton]; exact Nat.le_refl _) (fun w hw => by
    rcases List.mem_append.1 hw with hw | hw
    · exact h5' w hw
    · rw [List.mem_singleton.1 hw]; exact h6)
  by_cases c : (x5.length : Int) = 0
  · obtain ⟨r, h1, h2⟩ := add
    refine ⟨r, h1, Ev.step (fun k => by rw [spec_l07Names.j3]) (Ev.pos c ?_)⟩
    refine Ev.pos (by omega) ?_
    exact h2
  · have w : wrap64 ((x5.length : Int) - 1) = (x5.length : Int) - 1 := w64 (by omega) (by omega)
    have st : ∀ r, Ev (fun k => if (rdOf ByteArray.empty x5 ((x5.length : Int) - 1)).toList = x6.toList then (spec_l07Names.l0 k x3 x4 x5) else (if x5.length < 8796093022208 then (spec_l07Names.l0 k x3 x4 (x5 ++ [x6])) else (none))) r → Ev (fun k => spec_l07Names.j3 k x3 x4 x5 x6) r := fun r hr => by
      refine Ev.step (fun k => by rw [spec_l07Names.j3, w]) (Ev.neg c ?_)
      refine Ev.pos (by omega) ?_
      refine Ev.pos (by omega) ?_
      exact hr
    by_cases c2 : (rdOf ByteArray.empty x5 ((x5.length : Int) - 1)).toList = x6.toList
    · obtain ⟨r, h1, h2⟩ := h x5 (by omega) h5'
      exact ⟨r, h1, st r (Ev.pos c2 h2)⟩
    · obtain ⟨r, h1, h2⟩ := add
      refine ⟨r, h1, st r (Ev.neg c2 ?_)⟩
      refine Ev.pos (by omega) ?_
      exact h2
theorem names_merge (d : Nat) : ∀ x3 x4 x5 : List ByteArray, x3.length + x4.length ≤ d → x5.length + d ≤ 1000 → (∀ w ∈ x3, okW w) → (∀ w ∈ x4, okW w) → (∀ w ∈ x5, okW w) → ∃ r, Good r (x5.length + d) ∧ Ev (fun k => spec_l07Names.l0 k x3 x4 x5) r := by
  induction d with
  | zero =>
    intro x3 x4 x5 hd hb h3 h4 h5
    have e3 : x3.length = 0 := by omega
    have e4 : x4.length = 0 := by omega
    refine ⟨x5, ⟨by omega, h5⟩, Ev.step (fun k => by rw [spec_l07Names.l0, decide_eq_false (show ¬ (x4.length : Int) > 0 by omega)]) ?_⟩
    refine Ev.neg (by omega) ?_
    exact Ev.step (fun k => by rw [spec_l07Names.j1]) (Ev.neg Bool.false_ne_true (Ev.now _))
  | succ d ih =>
    intro x3 x4 x5 hd hb h3 h4 h5
    have fst : ∀ a x, x3 = a :: x → ∃ r, Good r (x5.length + (d + 1)) ∧ Ev (fun k => spec_l07Names.j2 k x3 x4 x5 true) r := by
      intro a x e
      subst e
      obtain ⟨r, h1, h2⟩ := names_j3 x x4 x5 a (x5.length + (d + 1)) (by omega) (h3 a (List.mem_cons_self ..)) h5 (fun y5 hy hg => by
        obtain ⟨r, ⟨g1, g2⟩, g3⟩ := ih x x4 y5 (by simp only [List.length_cons] at hd; omega) (by omega) (fun w hw => h3 w (List.mem_cons_of_mem _ hw)) h4 hg
        exact ⟨r, ⟨by omega, g2⟩, g3⟩)
      refine ⟨r, h1, Ev.step (fun k => by rw [spec_l07Names.j2]) (Ev.pos rfl ?_)⟩
      refine Ev.pos (by simp only [List.length_cons]; omega) ?_
      refine Ev.pos (by simp only [List.length_cons]; omega) ?_
      exact h2
    have snd : ∀ a x, x4 = a :: x → ∃ r, Good r (x5.length + (d + 1)) ∧ Ev (fun k => spec_l07Names.j2 k x3 x4 x5 false) r := by
      intro a x e
      subst e
      obtain ⟨r, h1, h2⟩ := names_j3 x3 x x5 a (x5.length + (d + 1)) (by omega) (h4 a (List.mem_cons_self ..)) h5 (fun y5 hy hg => by
        obtain ⟨r, ⟨g1, g2⟩, g3⟩ := ih x3 x y5 (by simp only [List.length_cons] at hd; omega) (by omega) h3 (fun w hw => h4 w (List.mem_cons_of_mem _ hw)) hg
        exact ⟨r, ⟨by omega, g2⟩, g3⟩)
      refine ⟨r, h1, Ev.step (fun k => by rw [spec_l07Names.j2]) (Ev.neg Bool.false_ne_true ?_)⟩
      refine Ev.pos (by simp only [List.length_cons]; omega) ?_
      refine Ev.pos (by simp only [List.length_cons]; omega) ?_
      exact h2
    cases x4 with
    | nil =>
      cases x3 with
      | nil =>
        refine ⟨x5, ⟨by omega, h5⟩, Ev.step (fun k => by rw [spec_l07Names.l0, decide_eq_false (show ¬ ((([] : List ByteArray).length : Nat) : Int) > 0 by decide)]) ?_⟩
        refine Ev.neg (by decide) ?_
        exact Ev.step (fun k => by rw [spec_l07Names.j1]) (Ev.neg Bool.false_ne_true (Ev.now _))
      | cons a x =>
        obtain ⟨r, h1, h2⟩ := fst a x rfl
        refine ⟨r, h1, Ev.step (fun k => by rw [spec_l07Names.l0]) (Ev.pos (by simp only [List.length_cons]; omega) ?_)⟩
        exact Ev.step (fun k => by rw [spec_l07Names.j1]) (Ev.pos rfl (Ev.pos (by decide) h2))
    | cons b y =>
      have n4 : ¬ (((b :: y).length : Nat) : Int) = 0 := by simp only [List.length_cons]; omega
      cases x3 with
      | nil =>
        obtain ⟨r, h1, h2⟩ := snd b y rfl
        refine ⟨r, h1, Ev.step (fun k => by rw [spec_l07Names.l0, decide_eq_true (show (((b :: y).length : Nat) : Int) > 0 by simp only [List.length_cons]; omega)]) ?_⟩
        refine Ev.neg (by decide) ?_
        exact Ev.step (fun k => by rw [spec_l07Names.j1]) (Ev.pos rfl (Ev.neg n4 (Ev.neg (by decide) h2)))
      | cons a x =>
        have p3 : (((a :: x).length : Nat) : Int) > 0 := by simp only [List.length_cons]; omega
        have st : ∀ r, Ev (fun k => spec_l07Names.j2 k (a :: x) (b :: y) x5 (!(Op.bytesLess (b.toList) (a.toList)))) r → Ev (fun k => spec_l07Names.l0 k (a :: x) (b :: y) x5) r := fun r hr => by
          refine Ev.step (fun k => by rw [spec_l07Names.l0]) (Ev.pos p3 ?_)
          refine Ev.step (fun k => by rw [spec_l07Names.j1, rdS0, rdS0]) (Ev.pos rfl (Ev.neg n4 (Ev.pos p3 ?_)))
          refine Ev.pos p3 ?_
          refine Ev.pos (by simp only [List.length_cons]; omega) ?_
          exact hr
        cases hbl : Op.bytesLess (b.toList) (a.toList) with
        | true =>
          obtain ⟨r, h1, h2⟩ := snd b y rfl
          exact ⟨r, h1, st r (by rw [hbl]; exact h2)⟩
        | false =>
          obtain ⟨r, h1, h2⟩ := fst a x rfl
          exact ⟨r, h1, st r (by rw [hbl]; exact h2)⟩
theorem names_ev (n : Nat) : ∀ l : List ByteArray, l.length ≤ n → n ≤ 100 → (∀ w ∈ l, okW w) → ∃ r, Good r l.length ∧ Ev (fun k => spec_l07Names.f k l) r := by
  induction n with
  | zero =>
    intro l hl _ h
    refine ⟨[] ++ l, ⟨by simp, by simpa using h⟩, Ev.step (fun k => by rw [spec_l07Names.f]) (Ev.pos (by omega) (Ev.bind (Ev.now _) ?_))⟩
    refine Ev.pos (by simp only [List.length_nil]; omega) ?_
    exact Ev.now _
  | succ n ih =>
    intro l hl hn h
    by_cases c : (l.length : Int) < 2
    · refine ⟨[] ++ l, ⟨by simp, by simpa using h⟩, Ev.step (fun k => by rw [spec_l07Names.f]) (Ev.pos c (Ev.bind (Ev.now _) ?_))⟩
      refine Ev.pos (by simp only [List.length_nil]; omega) ?_
      exact Ev.now _
    · have w : wrap64 ((l.length : Int) / 2) = ((l.length / 2 : Nat) : Int) := by rw [w64 (by omega) (by omega)]; omega
      obtain ⟨m, hm⟩ : ∃ m, m = l.length / 2 := ⟨_, rfl⟩
      rw [← hm] at w
      have w' : Aside0 (wrap64 ((l.length : Int) / 2) = (m : Int)) := ⟨w⟩
      clear w
      obtain ⟨r1, ⟨g1, g1'⟩, e1⟩ := ih (l.take m) (by rw [List.length_take]; omega) (by omega) (fun w hw => h w (List.mem_of_mem_take hw))
      obtain ⟨r2, ⟨g2, g2'⟩, e2⟩ := ih (l.drop m) (by rw [List.length_drop]; omega) (by omega) (fun w hw => h w (List.mem_of_mem_drop hw))
      rw [List.length_take] at g1
      rw [List.length_drop] at g2
      obtain ⟨r, ⟨g3, g3'⟩, e3⟩ := names_merge l.length r1 r2 [] (by omega) (by simp only [List.length_nil]; omega) g1' g2' (by simp)
      refine ⟨r, ⟨by simpa using g3, g3'⟩, Ev.step (fun k => by rw [spec_l07Names.f, w'.out, Int.toNat_natCast]) (Ev.neg c ?_)⟩
      refine Ev.pos (by omega) ?_
      refine Ev.pos (by omega) ?_
      exact Ev.bind e1 (Ev.bind e2 e3)
theorem suggest_l2 (x : ByteArray) (n : Int) (names : List ByteArray) (hn : names.length ≤ 100) (d : Nat) (hd : d ≤ 2) (H : ∀ out : List ByteArray, out.length ≤ (d + 1) * 100 → ∃ o, Ev (fun k => spec_Suggest.l1 k x n out names ((d + 1 : Nat) : Int)) (o, 0)) (e : Nat) :
    ∀ (i : Nat) (out : List ByteArray), i + e = names.length → out.length ≤ d * 100 + i → ∃ o, Ev (fun k => spec_Suggest.l2 k x n out names (d : Int) (i : Int)) (o, 0) := by
  induction e with
  | zero =>
    intro i out hi ho
    obtain ⟨o, h⟩ := H out (by omega)
    have w : wrap64 ((d : Int) + 1) = ((d + 1 : Nat) : Int) := by rw [w64 (by omega) (by omega)]; omega
    exact ⟨o, Ev.step (fun k => by rw [spec_Suggest.l2, if_neg (by omega), w]) h⟩
  | succ e ih =>
    intro i out hi ho
    have hlt : i < names.length := by omega
    have w : wrap64 ((i : Int) + 1) = ((i + 1 : Nat) : Int) := by rw [w64 (by omega) (by omega)]; omega
    have w' : Aside0 (wrap64 ((i : Int) + 1) = ((i + 1 : Nat) : Int)) := ⟨w⟩
    clear w
    have skip : ∃ o, Ev (fun k => spec_Suggest.j5 k x n out names (d : Int) (i : Int) false) (o, 0) := by
      obtain ⟨o, h⟩ := ih (i + 1) out (by omega) (by omega)
      exact ⟨o, Ev.step (fun k => by rw [spec_Suggest.j5, w'.out]) (Ev.neg Bool.false_ne_true h)⟩
    have take : ∃ o, Ev (fun k => spec_Suggest.j5 k x n out names (d : Int) (i : Int) true) (o, 0) := by
      obtain ⟨o, h⟩ := ih (i + 1) (out ++ [names[i]]) (by omega) (by rw [List.length_append, List.length_singleton]; omega)
      refine ⟨o, Ev.step (fun k => by rw [spec_Suggest.j5, w'.out, rdS names i hlt]) (Ev.pos rfl ?_)⟩
      refine Ev.pos (by omega) ?_
      refine Ev.pos (by omega) ?_
      refine Ev.pos (by omega) ?_
      exact h
    have either : ∀ b, ∃ o, Ev (fun k => spec_Suggest.j5 k x n out names (d : Int) (i : Int) b) (o, 0) := fun b => by cases b; exact skip; exact take
    have st : ∀ r, Ev (fun k => if (editsTell x names[i]).2 = 0 then (if (editsTell x names[i]).1 = (d : Int) then (spec_Suggest.j5 k x n out names (d : Int) (i : Int) (decide ((out.length : Int) < n))) else (spec_Suggest.j5 k x n out names (d : Int) (i : Int) false)) else (spec_Suggest.j5 k x n out names (d : Int) (i : Int) false)) r → Ev (fun k => spec_Suggest.l2 k x n out names (d : Int) (i : Int)) r := fun r h =>
      Ev.step (fun k => by rw [spec_Suggest.l2, if_pos (by omega), if_pos (by omega), rdS names i hlt]) (Ev.bind (spec_Edits_eq x names[i]) h)
    by_cases c1 : (editsTell x names[i]).2 = 0
    · by_cases c2 : (editsTell x names[i]).1 = (d : Int)
      · obtain ⟨o, h⟩ := either (decide ((out.length : Int) < n))
        exact ⟨o, st _ (Ev.pos c1 (Ev.pos c2 h))⟩
      · obtain ⟨o, h⟩ := skip
        exact ⟨o, st _ (Ev.pos c1 (Ev.neg c2 h))⟩
    · obtain ⟨o, h⟩ := skip
      exact ⟨o, st _ (Ev.neg c1 h)⟩
theorem suggest_l1 (x : ByteArray) (n : Int) (names : List ByteArray) (hn : names.length ≤ 100) (m : Nat) : ∀ (d : Nat) (out : List ByteArray), d + m = 3 → out.length ≤ d * 100 → ∃ o, Ev (fun k => spec_Suggest.l1 k x n out names (d : Int)) (o, 0) := by
  induction m with
  | zero =>
    intro d out hd ho
    exact ⟨out, Ev.step (fun k => by rw [spec_Suggest.l1, if_neg (by omega)]) (Ev.now _)⟩
  | succ m ih =>
    intro d out hd ho
    obtain ⟨o, h⟩ := suggest_l2 x n names hn d (by omega) (fun out' ho' => ih (d + 1) out' (by omega) ho') names.length 0 out (by omega) (by omega)
    rw [show ((0 : Nat) : Int) = 0 from rfl] at h
    exact ⟨o, Ev.step (fun k => by rw [spec_Suggest.l1, if_pos (by omega)]) h⟩
def V (w : ByteArray) : Bool := Lib.validD w.data.toList
def codeOf (words : List ByteArray) (t : ByteArray) (n : Int) : Int := if V t = true then (if words.all V = true then (if ((impl_Decode.runes t t.size 0).length : Int) > 200 ∨ n < 0 ∨ n > 20 then 12 else 0) else 3) else 3
theorem spec_code (words : List ByteArray) (t : ByteArray) (n : Int) (hl : words.length ≤ 100) (hw : ∀ w ∈ words, okW w) (ht : okW t) : ∃ o, Ev (fun k => spec_Suggest.f k words t n) (o, codeOf words t n) := by
  have dt := l01Decode_eq t (by unfold okW at ht; omega)
  have st : ∀ r, Ev (fun k => (spec_l01Decode.f k t).bind fun bt234 => (if bt234.2 = true then (spec_Suggest.l0 k words t n bt234.1 0) else (some ((([] : List ByteArray)), 3)))) r → Ev (fun k => spec_Suggest.f k words t n) r := fun r h => by
    unfold spec_Suggest.f
    rw [decide_eq_false (show ¬ (t.size : Int) > 65536 by unfold okW at ht; omega)]
    exact Ev.neg (by omega) (Ev.step (fun k => by rw [spec_Suggest.j0]) (Ev.neg Bool.false_ne_true h))
  unfold codeOf
  by_cases c1 : V t = true
  · rw [if_pos c1]
    rw [if_pos (show Lib.validD t.data.toList = true from c1)] at dt
    have j2t : Ev (fun k => spec_Suggest.j2 k words t n true) ([], 12) := Ev.step (fun k => by rw [spec_Suggest.j2]) (Ev.pos rfl (Ev.now _))
    have fin : ∃ o, Ev (fun k => if ((impl_Decode.runes t t.size 0).length : Int) > 200 then (spec_Suggest.j2 k words t n true) else (if n < 0 then (spec_Suggest.j2 k words t n true) else (spec_Suggest.j2 k words t n (decide (n > 20))))) (o, if ((impl_Decode.runes t t.size 0).length : Int) > 200 ∨ n < 0 ∨ n > 20 then 12 else 0) := by
      by_cases k1 : ((impl_Decode.runes t t.size 0).length : Int) > 200
      · rw [if_pos (.inl k1)]; exact ⟨_, Ev.pos k1 j2t⟩
      · by_cases k2 : n < 0
        · rw [if_pos (.inr (.inl k2))]; exact ⟨_, Ev.neg k1 (Ev.pos k2 j2t)⟩
        · by_cases k3 : n > 20
          · rw [if_pos (.inr (.inr k3)), decide_eq_true k3]; exact ⟨_, Ev.neg k1 (Ev.neg k2 j2t)⟩
          · rw [if_neg (by omega), decide_eq_false k3]
            obtain ⟨r, ⟨g1, _⟩, g3⟩ := names_ev 100 words hl (by omega) hw
            obtain ⟨o, h⟩ := suggest_l1 t n r (by omega) 3 0 [] rfl (by simp)
            exact ⟨o, Ev.neg k1 (Ev.neg k2 (Ev.step (fun k => by rw [spec_Suggest.j2]) (Ev.neg Bool.false_ne_true (Ev.bind g3 h))))⟩
    have loop : ∀ d i, i + d = words.length → ∃ o, Ev (fun k => spec_Suggest.l0 k words t n (impl_Decode.runes t t.size 0) (i : Int)) (o, if (words.drop i).all V = true then (if ((impl_Decode.runes t t.size 0).length : Int) > 200 ∨ n < 0 ∨ n > 20 then 12 else 0) else 3) := by
      intro d
      induction d with
      | zero =>
        intro i hi
        rw [List.drop_of_length_le (by omega), List.all_nil, if_pos rfl]
        obtain ⟨o, h⟩ := fin
        exact ⟨o, Ev.step (fun k => by rw [spec_Suggest.l0, if_neg (by omega)]) h⟩
      | succ d ih =>
        intro i hi
        have hlt : i < words.length := by omega
        have hwi := hw _ (List.getElem_mem hlt)
        have dw := l01Decode_eq words[i] (by unfold okW at hwi; omega)
        have w : wrap64 ((i : Int) + 1) = ((i + 1 : Nat) : Int) := by rw [w64 (by omega) (by omega)]; omega
        rw [List.drop_eq_getElem_cons hlt, List.all_cons]
        by_cases c : V words[i] = true
        · rw [if_pos (show Lib.validD words[i].data.toList = true from c)] at dw
          rw [c, Bool.true_and]
          obtain ⟨o, h⟩ := ih (i + 1) (by omega)
          exact ⟨o, Ev.step (fun k => by rw [spec_Suggest.l0, if_pos (by omega), if_pos (by omega), rdS words i hlt, w]) (Ev.bind dw (Ev.pos rfl h))⟩
        · rw [if_neg (show ¬ Lib.validD words[i].data.toList = true from c)] at dw
          rw [show V words[i] = false by simpa using c, Bool.false_and, if_neg Bool.false_ne_true]
          exact ⟨_, Ev.step (fun k => by rw [spec_Suggest.l0, if_pos (by omega), if_pos (by omega), rdS words i hlt, w]) (Ev.bind dw (Ev.neg Bool.false_ne_true (Ev.now _)))⟩
    obtain ⟨o, h⟩ := loop words.length 0 (by omega)
    rw [List.drop_zero] at h
    exact ⟨o, st _ (Ev.bind dt (Ev.pos rfl h))⟩
  · rw [if_neg c1]
    rw [if_neg (show ¬ Lib.validD t.data.toList = true from c1)] at dt
    exact ⟨_, st _ (Ev.bind dt (Ev.neg Bool.false_ne_true (Ev.now _)))⟩
theorem chk_ev : ∀ l : List ByteArray, (∀ w ∈ l, okW w) → impl_Suggest.chk l = some (l.all V)
  | [], _ => rfl
  | w :: t, h => by
    have hw := h w (List.mem_cons_self ..)
    unfold impl_Suggest.chk
    rw [impl_Decode_eq, Option.bind_some, List.all_cons]
    unfold decTell
    rw [if_neg (show ¬ (w.size : Int) > 65536 by unfold okW at hw; omega)]
    by_cases c : V w = true
    · rw [if_pos (show Lib.validD w.data.toList = true from c), c, Bool.true_and, if_pos rfl]
      exact chk_ev t (fun v hv => h v (List.mem_cons_of_mem _ hv))
    · rw [if_neg (show ¬ Lib.validD w.data.toList = true from c), show V w = false by simpa using c, Bool.false_and, if_neg (by decide)]
def gotP (words : List ByteArray) (t : ByteArray) (n : Int) : List NP := (impl_Suggest.sort (nearL t words [])).take n.toNat
theorem impl_code (words : List ByteArray) (t : ByteArray) (n : Int) (hl : words.length ≤ 100) (hw : ∀ w ∈ words, okW w) (ht : okW t) :
    Ev (fun k => impl_Suggest.f k words t n) (if codeOf words t n = 0 then ((gotP words t n).map (fun p => p.1), 0) else ([], codeOf words t n)) := by
  have hany : ¬ words.any (fun w => decide ((w.size : Int) > 65536)) = true := fun h => by
    obtain ⟨w, h1, h2⟩ := List.any_eq_true.1 h
    have := hw w h1
    unfold okW at this
    simp only [decide_eq_true_eq] at h2
    omega
  unfold impl_Suggest.f
  refine Ev.neg (by omega) (Ev.neg (by unfold okW at ht; omega) (Ev.neg hany ?_))
  rw [impl_Decode_eq, chk_ev words hw]
  unfold decTell
  rw [if_neg (show ¬ (t.size : Int) > 65536 by unfold okW at ht; omega)]
  simp only [Option.bind_some]
  unfold codeOf
  by_cases c1 : V t = true
  · rw [if_pos (show Lib.validD t.data.toList = true from c1), if_pos c1]
    refine Ev.pos rfl ?_
    by_cases c2 : words.all V = true
    · rw [if_pos c2]
      refine Ev.pos c2 ?_
      by_cases c3 : ((impl_Decode.runes t t.size 0).length : Int) > 200 ∨ n < 0 ∨ n > 20
      · rw [if_pos c3, if_neg (by decide)]
        exact Ev.pos c3 (Ev.now _)
      · rw [if_neg c3, if_pos rfl]
        exact Ev.neg c3 (Ev.bind (near_ev t words []) (Ev.now _))
    · rw [if_neg c2, if_neg (by decide)]
      exact Ev.neg c2 (Ev.now _)
  · rw [if_neg (show ¬ Lib.validD t.data.toList = true from c1), if_neg c1, if_neg (by decide)]
    exact Ev.neg (by decide) (Ev.now _)

section
variable {words : List ByteArray} {t : ByteArray} {n : Int} {got : List ByteArray} {last : Int} (hl : words.length ≤ 100) (hg : got.length ≤ 100)
include hg
theorem law_l2 (j : Nat) (hj : j < words.length) (D f : Int) (h4 : Ev (fun k => laws_FnSuggest.j4 k words t n got last (j : Int) false) true)
    (hfin : f = 0 → D ≤ 2 → (∀ g ∈ got, g.toList ≠ words[j].toList) → ¬ (got.length : Int) < n ∧ ¬ D < last) (d : Nat) :
    ∀ (i : Nat) (told : Bool), i + d = got.length → (told = false → ∀ g ∈ got.take i, g.toList ≠ words[j].toList) → Ev (fun k => laws_FnSuggest.l2 k words t n got last (j : Int) D f told (i : Int)) true := by
  induction d with
  | zero =>
    intro i told hi ht
    refine Ev.step (fun k => by rw [laws_FnSuggest.l2, if_neg (by omega)]) ?_
    by_cases c1 : f = 0
    · refine Ev.pos c1 ?_
      by_cases c2 : D ≤ 2
      · refine Ev.pos c2 ?_
        cases told with
        | true => exact Ev.pos rfl h4
        | false =>
          refine Ev.neg Bool.false_ne_true ?_
          have h := hfin c1 c2 (fun g hg' => ht rfl g (by rw [List.take_of_length_le (by omega)]; exact hg'))
          rw [decide_eq_false h.2]
          exact Ev.neg h.1 h4
      · exact Ev.neg c2 h4
    · exact Ev.neg c1 h4
  | succ d ih =>
    intro i told hi ht
    have hlt : i < got.length := by omega
    have w : wrap64 ((i : Int) + 1) = ((i + 1 : Nat) : Int) := by rw [w64 (by omega) (by omega)]; omega
    cases told with
    | true =>
      have h := ih (i + 1) true (by omega) (fun h => by cases h)
      exact Ev.step (fun k => by rw [laws_FnSuggest.l2, if_pos (by omega), w]) (Ev.pos rfl h)
    | false =>
      have h := ih (i + 1) (got[i].toList == words[j].toList) (by omega) (fun hf g hg' => by
        rw [List.take_succ_eq_append_getElem hlt] at hg'
        rcases List.mem_append.1 hg' with hg' | hg'
        · exact ht rfl g hg'
        · rw [List.mem_singleton.1 hg']; exact beq_eq_false_iff_ne.1 hf)
      refine Ev.step (fun k => by rw [laws_FnSuggest.l2, if_pos (by omega), w, rdS got i hlt, rdS words j hj]) (Ev.neg Bool.false_ne_true ?_)
      refine Ev.pos (by omega) ?_
      refine Ev.pos (by omega) ?_
      refine Ev.pos (by omega) ?_
      exact h
include hl in
theorem law_l1 (hn : (got.length : Int) ≤ n) (hfin : ∀ w ∈ words, (editsTell t w).2 = 0 → (editsTell t w).1 ≤ 2 → (∀ g ∈ got, g.toList ≠ w.toList) → ¬ (got.length : Int) < n ∧ ¬ (editsTell t w).1 < last) (d : Nat) :
    ∀ j : Nat, j + d = words.length → Ev (fun k => laws_FnSuggest.l1 k words t n got last (j : Int)) true := by
  induction d with
  | zero =>
    intro j hj
    refine Ev.step (fun k => by rw [laws_FnSuggest.l1, if_neg (by omega), decide_eq_true hn]) (Ev.now _)
  | succ d ih =>
    intro j hj
    have hlt : j < words.length := by omega
    have w : wrap64 ((j : Int) + 1) = ((j + 1 : Nat) : Int) := by rw [w64 (by omega) (by omega)]; omega
    have h4 : Ev (fun k => laws_FnSuggest.j4 k words t n got last (j : Int) false) true := Ev.step (fun k => by rw [laws_FnSuggest.j4, w]) (Ev.neg Bool.false_ne_true (ih (j + 1) (by omega)))
    have h := law_l2 hg j hlt (editsTell t words[j]).1 (editsTell t words[j]).2 h4 (hfin _ (List.getElem_mem hlt)) got.length 0 false (by omega) (fun _ g hg' => by rw [List.take_zero] at hg'; cases hg')
    rw [show ((0 : Nat) : Int) = 0 from rfl] at h
    exact Ev.step (fun k => by rw [laws_FnSuggest.l1, if_pos (by omega), if_pos (by omega), rdS words j hlt]) (Ev.bind (impl_Edits_eq t words[j]) h)
end
theorem law_l0 (words : List ByteArray) (t : ByteArray) (n : Int) (P : List NP) (hp : P.length ≤ 100) (lastAll : Int) (hE : ∀ p ∈ P, editsTell t p.1 = (p.2, 0) ∧ 0 ≤ p.2 ∧ p.2 ≤ 2)
    (hs : ∀ i (h : i + 1 < P.length), P[i].2 ≤ P[i + 1].2 ∧ (P[i + 1].2 = P[i].2 → Op.bytesLess P[i].1.toList P[i + 1].1.toList = true)) (hlast : ∀ h : 0 < P.length, lastAll = P[P.length - 1].2) (h0 : P.length = 0 → lastAll = 0)
    (hend : Ev (fun k => laws_FnSuggest.l1 k words t n (P.map (fun p => p.1)) lastAll 0) true) (d : Nat) : ∀ (i : Nat) (last : Int), i + d = P.length → (i = 0 → last = 0) → (∀ h : i - 1 < P.length, 0 < i → last = P[i - 1].2) →
    Ev (fun k => laws_FnSuggest.l0 k words t n (P.map (fun p => p.1)) last (i : Int)) true := by
  have hm : (P.map (fun p => p.1)).length = P.length := List.length_map ..
  induction d with
  | zero =>
    intro i last hi h1 h2
    refine Ev.step (fun k => by rw [laws_FnSuggest.l0, if_neg (by omega)]) ?_
    have e : last = lastAll := by
      by_cases c : i = 0
      · rw [h1 c, h0 (by omega)]
      · rw [h2 (by omega) (by omega), hlast (by omega)]
        congr 2; omega
    rw [e]; exact hend
  | succ d ih =>
    intro i last hi h1 h2
    have hlt : i < P.length := by omega
    obtain ⟨e1, e2, e3⟩ := hE _ (List.getElem_mem hlt)
    have w : wrap64 ((i : Int) + 1) = ((i + 1 : Nat) : Int) := by rw [w64 (by omega) (by omega)]; omega
    have rd1 : ∀ (m : Nat) (h : m < P.length), rdOf ByteArray.empty (P.map (fun p => p.1)) (m : Int) = P[m].1 := fun m h => by rw [rdS _ m (by omega), List.getElem_map]
    have go : Ev (fun k => laws_FnSuggest.j1 k words t n (P.map (fun p => p.1)) (i : Int) P[i].2 false) true :=
      Ev.step (fun k => by rw [laws_FnSuggest.j1, w]) (Ev.neg Bool.false_ne_true (ih (i + 1) P[i].2 (by omega) (fun h => by omega) (fun _ _ => rfl)))
    have hE' : Ev (fun k => impl_Edits.f k t P[i].1) (P[i].2, 0) := by rw [← e1]; exact impl_Edits_eq t P[i].1
    refine Ev.step (fun k => by rw [laws_FnSuggest.l0, if_pos (by omega), if_pos (by omega), rd1 i hlt]) (Ev.bind hE' (Ev.pos rfl ?_))
    have hle : last ≤ P[i].2 := by
      by_cases c : i = 0
      · rw [h1 c]; exact e2
      · rw [h2 (by omega) (by omega)]
        have h3 := (hs (i - 1) (by omega)).1
        have ei : i - 1 + 1 = i := by omega
        simp only [ei] at h3
        exact h3
    refine Ev.neg (show ¬ P[i].2 > 2 by omega) (Ev.neg (show ¬ P[i].2 < last by omega) ?_)
    by_cases c : (i : Int) > 0
    · refine Ev.pos c ?_
      by_cases c2 : P[i].2 = last
      · have w2 : wrap64 ((i : Int) - 1) = ((i - 1 : Nat) : Int) := by rw [w64 (by omega) (by omega)]; omega
        have hb : Op.bytesLess P[i - 1].1.toList P[i].1.toList = true := by
          have h3 := (hs (i - 1) (by omega)).2
          have ei : i - 1 + 1 = i := by omega
          simp only [ei] at h3
          exact h3 (by rw [c2, h2 (by omega) (by omega)])
        refine Ev.pos c2 ?_
        simp only [w2, rd1 (i - 1) (by omega), hb]
        refine Ev.pos (by omega) ?_
        refine Ev.pos (by omega) ?_
        exact go
      · exact Ev.neg c2 go
    · exact Ev.neg c go
theorem near_len (x : ByteArray) : ∀ l seen : List ByteArray, (nearL x l seen).length ≤ l.length
  | [], _ => Nat.le_refl _
  | w :: t, seen => by
    unfold nearL
    have h1 := near_len x t seen
    have h2 := near_len x t (w :: seen)
    split
    · simp only [List.length_cons]; omega
    · split
      · simp only [List.length_cons]; omega
      · simp only [List.length_cons]; omega
theorem FnSuggest (l : List Int) (hl0 : l.length ≤ maxLen ∧ ∀ y0 ∈ l, (Lit.int .u8 y0).wf = true) : ∃ k, laws_FnSuggest.f k l = some true := by
  have hb0 := hl0.2
  refine Ev.rounds (g := fun k => laws_FnSuggest.f k l) ?_
  unfold laws_FnSuggest.f
  by_cases h : (l.length : Int) > 1048576
  · exact Ev.pos h (Ev.now _)
  · refine Ev.neg h ?_
    have hB : BytesOK l := ⟨by omega, fun i hi => by
      have := wf8 (hb0 _ (List.getElem_mem hi))
      rw [List.getD_eq_getElem?_getD, List.getElem?_eq_getElem hi]
      exact this⟩
    obtain ⟨words, t, n, hl, hw, ht, hd⟩ := draw_all l (by omega) hB
    obtain ⟨o, hs⟩ := spec_code words t n hl hw ht
    have hi := impl_code words t n hl hw ht
    by_cases c : codeOf words t n = 0
    · rw [if_pos c] at hi
      rw [c] at hs
      have hnn : 0 ≤ n := by
        unfold codeOf at c
        split at c
        · split at c
          · split at c
            · cases c
            · omega
          · cases c
        · cases c
      obtain ⟨S, hS⟩ := (⟨_, rfl⟩ : ∃ S, S = impl_Suggest.sort (nearL t words []))
      have hperm : List.Perm S (nearL t words []) := hS ▸ sort_perm _
      have hSl : S.length ≤ 100 := by rw [hperm.length_eq]; exact Nat.le_trans (near_len t words []) hl
      have hsort : S.Pairwise (fun x y => impl_Suggest.le x y = true) := hS ▸ sort_sorted _
      have hne : S.Pairwise (fun a b => a.1.toList ≠ b.1.toList) := (hperm.pairwise_iff (fun {_ _} h => fun e => h e.symm)).2 (near_ne t words [])
      have hmem : ∀ p ∈ S, p.2 = (editsTell t p.1).1 ∧ (editsTell t p.1).2 = 0 ∧ p.2 ≤ 2 := fun p hp => by
        obtain ⟨_, h2, h3, h4, _⟩ := near_mem t words [] p (hperm.mem_iff.1 hp)
        exact ⟨h2, h3, h4⟩
      have hP : gotP words t n = S.take n.toNat := by unfold gotP; rw [hS]
      obtain ⟨P, hPe⟩ : ∃ P, P = S.take n.toNat := ⟨_, rfl⟩
      rw [hP, ← hPe] at hi
      have hPl : P.length ≤ S.length ∧ (P.length : Int) ≤ n := by rw [hPe, List.length_take]; omega
      have hPi : ∀ i (h : i < P.length), ∃ h' : i < S.length, P[i] = S[i] := fun i h => ⟨by omega, by simp only [hPe, List.getElem_take]⟩
      have hsP : ∀ i j (hij : i < j) (hj : j < S.length), (S[i]'(by omega)).2 ≤ S[j].2 ∧ (S[j].2 = (S[i]'(by omega)).2 → Op.bytesLess (S[i]'(by omega)).1.toList S[j].1.toList = true) := fun i j hij hj => by
        have h1 := List.pairwise_iff_getElem.1 hsort i j (by omega) hj hij
        have h2 := List.pairwise_iff_getElem.1 hne i j (by omega) hj hij
        unfold impl_Suggest.le at h1
        simp only [Bool.or_eq_true, decide_eq_true_eq, Bool.and_eq_true, Bool.not_eq_true'] at h1
        rcases h1 with h1 | ⟨h1, h3⟩
        · exact ⟨by omega, fun e => by omega⟩
        · refine ⟨by omega, fun _ => ?_⟩
          have tr := bl_tri (S[i]'(by omega)).1.toList S[j].1.toList
          rw [h3, show ((S[i]'(by omega)).1.toList == S[j].1.toList) = false from beq_eq_false_iff_ne.2 h2, Bool.or_false] at tr
          simpa using tr
      obtain ⟨la, hla⟩ : ∃ la : Int, la = if h : 0 < P.length then (P[P.length - 1]'(by omega)).2 else 0 := ⟨_, rfl⟩
      have hend : Ev (fun k => laws_FnSuggest.l1 k words t n (P.map (fun p => p.1)) la 0) true := by
        have hm : (P.map (fun p => p.1)).length = P.length := List.length_map ..
        refine law_l1 (d := words.length) hl (by omega) (by rw [hm]; exact hPl.2) (fun w hw' f0 f1 hno => ?_) 0 (by omega)
        have hin : (w, (editsTell t w).1) ∈ S := hperm.mem_iff.2 (near_all t words [] w hw' f0 f1 (by simp))
        obtain ⟨j, hj, hje⟩ := List.getElem_of_mem hin
        have hjn : n.toNat ≤ j := by
          refine Nat.le_of_not_lt (fun hlt => ?_)
          have hjP : j < P.length := by rw [hPe, List.length_take]; omega
          obtain ⟨_, he⟩ := hPi j hjP
          exact hno w (by rw [show w = P[j].1 by rw [he, hje]]; exact List.mem_map.2 ⟨P[j], List.getElem_mem hjP, rfl⟩) rfl
        have hPn : P.length = n.toNat := by rw [hPe, List.length_take]; omega
        refine ⟨by rw [hm]; omega, ?_⟩
        rw [hla]
        by_cases c0 : 0 < P.length
        · rw [dif_pos c0]
          obtain ⟨hq, he⟩ := hPi (P.length - 1) (by omega)
          rw [he]
          have h5 := (hsP (P.length - 1) j (by omega) hj).1
          rw [hje] at h5
          omega
        · rw [dif_neg c0]
          have := tell_ge t w
          omega
      have main := law_l0 words t n P (by omega) la (fun p hp => by
        obtain ⟨a1, a2, a3⟩ := hmem p (by rw [hPe] at hp; exact List.mem_of_mem_take hp)
        exact ⟨by rw [a1, ← a2], by rw [a1]; exact tell_ge _ _, a3⟩) (fun i hi' => by
        obtain ⟨q1, e1⟩ := hPi i (by omega)
        obtain ⟨q2, e2⟩ := hPi (i + 1) hi'
        rw [e1, e2]
        exact hsP i (i + 1) (by omega) q2) (fun h0 => by rw [hla, dif_pos h0]) (fun h0 => by rw [hla, dif_neg (by omega)]) hend P.length 0 0 (by omega) (fun _ => rfl) (fun _ h0 => absurd h0 (by omega))
      rw [show ((0 : Nat) : Int) = 0 from rfl] at main
      exact Ev.bind hd (Ev.bind hs (Ev.bind hi (Ev.pos rfl (Ev.pos rfl main))))
    · rw [if_neg c] at hi
      exact Ev.bind hd (Ev.bind hs (Ev.bind hi (Ev.pos rfl (Ev.neg c (Ev.now _)))))

end Go.Proofs.YtcokeankiedfcaaDoor.Pure
