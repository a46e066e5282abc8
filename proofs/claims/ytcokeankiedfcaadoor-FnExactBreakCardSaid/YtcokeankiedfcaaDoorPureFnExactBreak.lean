/- Whatever the text, the program's Break returns what the reference's returns, and hands out memory of its own: the law's function answers true. No condition. -/
import Derived.Test.YtcokeankiedfcaaDoorXFnExactBreakx8
import Derived.Test.YtcokeankiedfcaaDoorKit
import Derived.Lib.ItoaNum
import Derived.Lib.Bytes
import Derived.Test.YtcokeankiedfcaaDoorWfFnExactBreak
set_option linter.unusedSimpArgs false
set_option linter.unusedVariables false
namespace Go.Proofs.YtcokeankiedfcaaDoor.Pure
open Go.RowKit Go.Proofs.YtcokeankiedfcaaDoor.XFnExactBreak Go.Proofs.YtcokeankiedfcaaDoorW.PrintWords Go.Proofs.YtcokeankiedfcaaDoorW.PrintLast Go.Proofs.YtcokeankiedfcaaDoorW.PrintMore Go.Proofs.YtcokeankiedfcaaDoor.Kit

theorem Ev.steps {α : Type} {g f : Nat → Option α} {r : α} (c : Nat) (h : ∀ k, g (k + c) = f k) (k : Ev f r) : Ev g r := by
  obtain ⟨K, hK⟩ := k
  refine ⟨K + c, fun n hn => ?_⟩
  have := h (n - c)
  rw [Nat.sub_add_cancel (by omega)] at this
  rw [this]; exact hK _ (by omega)

theorem Ev.pos {α : Type} {c : Prop} [Decidable c] {f g : Nat → Option α} {r : α} (h : c) (k : Ev f r) : Ev (fun n => if c then f n else g n) r := Ev.congr (fun n => if_pos h) k
theorem Ev.neg {α : Type} {c : Prop} [Decidable c] {f g : Nat → Option α} {r : α} (h : ¬ c) (k : Ev g r) : Ev (fun n => if c then f n else g n) r := Ev.congr (fun n => if_neg h) k
theorem Ev.ofEq {α : Type} {x : Option α} {r : α} (h : x = some r) : Ev (fun _ => x) r := ⟨0, fun _ _ => h⟩
theorem Ev.from {α : Type} {g : Nat → Option α} {r : α} (K : Nat) (h : ∀ k, K < k → g k = some r) : Ev g r := ⟨K + 1, fun k hk => h k (by omega)⟩

def eb (a : Int) : List Int := if a < 128 then [a] else if a < 2048 then [192 + a / 64, 128 + a % 64] else if a < 65536 then [224 + a / 4096, 128 + a / 64 % 64, 128 + a % 64] else [240 + a / 262144, 128 + a / 4096 % 64, 128 + a / 64 % 64, 128 + a % 64]
def chOK (a : Int) : Bool := decide (0 ≤ a ∧ a ≤ 1114111 ∧ (a < 55296 ∨ 57343 < a))

theorem chOK_iff (a : Int) : chOK a = true ↔ 0 ≤ a ∧ a ≤ 1114111 ∧ (a < 55296 ∨ 57343 < a) := by simp [chOK]

theorem eb_length (a : Int) : 1 ≤ (eb a).length ∧ (eb a).length ≤ 4 := by
  unfold eb; (repeat' split) <;> simp

theorem charOK_eq (a : Int) : spec_l01CharOK.f a = some (chOK a) := by
  unfold spec_l01CharOK.f chOK
  (repeat' split) <;> (congr 1; rw [Bool.eq_iff_iff]; simp; try omega)

theorem bytes_eq (a : Int) (h : chOK a = true) : spec_l01Bytes.f a = some (eb a) := by
  obtain ⟨h0, h1, _⟩ := (chOK_iff a).1 h
  unfold spec_l01Bytes.f eb
  simp only [Int.tdiv_eq_ediv_of_nonneg h0, Int.tmod_eq_emod_of_nonneg h0]
  have d1 : wrap64 (a / 64) = a / 64 := w64 (by omega) (by omega)
  have d2 : wrap64 (a / 4096) = a / 4096 := w64 (by omega) (by omega)
  have d3 : wrap64 (a / 262144) = a / 262144 := w64 (by omega) (by omega)
  rw [d1, d2, d3]
  have m1 : Int.tmod (a / 64) 64 = a / 64 % 64 := Int.tmod_eq_emod_of_nonneg (by omega)
  have m2 : Int.tmod (a / 4096) 64 = a / 4096 % 64 := Int.tmod_eq_emod_of_nonneg (by omega)
  rw [m1, m2]
  have b0 : wrap64 (128 + a % 64) % 256 = 128 + a % 64 := by rw [w64 (by omega) (by omega)]; omega
  have b1 : wrap64 (128 + a / 64 % 64) % 256 = 128 + a / 64 % 64 := by rw [w64 (by omega) (by omega)]; omega
  have b2 : wrap64 (128 + a / 4096 % 64) % 256 = 128 + a / 4096 % 64 := by rw [w64 (by omega) (by omega)]; omega
  rw [b0, b1, b2]
  by_cases c1 : a < 128
  · rw [if_pos c1, if_pos c1, Int.emod_eq_of_lt h0 (by omega)]
  · rw [if_neg c1, if_neg c1]
    by_cases c2 : a < 2048
    · rw [if_pos c2, if_pos c2, w64 (x := 192 + a / 64) (by omega) (by omega), Int.emod_eq_of_lt (a := 192 + a / 64) (by omega) (by omega)]
    · rw [if_neg c2, if_neg c2]
      by_cases c3 : a < 65536
      · rw [if_pos c3, if_pos c3, w64 (x := 224 + a / 4096) (by omega) (by omega), Int.emod_eq_of_lt (a := 224 + a / 4096) (by omega) (by omega)]
      · rw [if_neg c3, if_neg c3, w64 (x := 240 + a / 262144) (by omega) (by omega), Int.emod_eq_of_lt (a := 240 + a / 262144) (by omega) (by omega)]


/-- The bytes of a list of characters, one behind the other. -/
def ebs (l : List Int) : List Int := l.flatMap eb

theorem ebs_snoc (l : List Int) (a : Int) : ebs (l ++ [a]) = ebs l ++ eb a := by simp [ebs]
theorem ebs_take (l : List Int) (i : Nat) (h : i < l.length) : ebs (l.take (i + 1)) = ebs (l.take i) ++ eb (l.getD i 0) := by
  rw [List.take_succ_eq_append_getElem h, ebs_snoc, List.getD_eq_getElem?_getD, List.getElem?_eq_getElem h]; rfl
theorem ebs_length (l : List Int) : l.length ≤ (ebs l).length ∧ (ebs l).length ≤ 4 * l.length := by
  induction l with
  | nil => simp [ebs]
  | cons a l ih =>
    have := eb_length a
    have e : ebs (a :: l) = eb a ++ ebs l := by simp [ebs]
    rw [e]; simp only [List.length_append, List.length_cons]; omega
theorem size_ofNums (l : List Int) : (strOfNums l).size = l.length := by
  simp [strOfNums, ByteArray.size]

theorem l01Encode_from (xs : List Int) (hn : xs.length ≤ 34359738368) (hb : ∀ i, i < xs.length → chOK (xs.getD i 0) = true) (d : Nat) : ∀ (k i : Nat), i + d = xs.length → d < k →
    spec_l01Encode.l0 k xs (ebs (xs.take i)) (i : Int) = some (strOfNums (ebs xs)) := by
  induction d with
  | zero =>
    intro k i hi hk
    obtain ⟨k, rfl⟩ : ∃ m, k = m + 1 := ⟨k - 1, by omega⟩
    rw [spec_l01Encode.l0, if_neg (by omega), List.take_of_length_le (by omega)]
  | succ d ih =>
    intro k i hi hk
    obtain ⟨k, rfl⟩ : ∃ m, k = m + 1 := ⟨k - 1, by omega⟩
    have hl := ebs_length (xs.take i)
    have hl2 : (xs.take i).length ≤ i := List.length_take_le _ _
    have he := eb_length (xs.getD i 0)
    rw [spec_l01Encode.l0, if_pos (by omega), if_pos (by omega), rd_nat, bytes_eq _ (hb i (by omega))]
    simp only [Option.bind_some]
    have e : wrap64 ((i : Int) + 1) = ((i + 1 : Nat) : Int) := by rw [w64 (by omega) (by omega)]; omega
    rw [if_pos (by omega), ← ebs_take xs i (by omega), e]
    exact ih k (i + 1) (by omega) (by omega)

theorem l01Encode_eq (xs : List Int) (hn : xs.length ≤ 34359738368) (hb : ∀ i, i < xs.length → chOK (xs.getD i 0) = true) (k : Nat) (hk : xs.length < k) :
    spec_l01Encode.f k xs = some (strOfNums (ebs xs)) := l01Encode_from xs hn hb xs.length k 0 (by omega) hk


/-! ### Decoding -/
theorem bt_get (s : ByteArray) (i : Nat) : bt s (i : Int) = ((s.get! i).toNat : Int) := by
  have h := Lib.getD_get!' s i
  unfold bt
  rw [Int.toNat_natCast]
  by_cases c : i < s.size
  · rw [dif_pos c, ← h, List.getD_eq_getElem?_getD, List.getElem?_eq_getElem (by rw [data_length]; exact c)]; rfl
  · rw [dif_neg c, ← h, List.getD_eq_getElem?_getD, List.getElem?_eq_none (by rw [data_length]; omega)]; rfl

/-- What the reference's look at a place tells, out of the decoder's step. -/
def stepR (d : Nat × Nat) : Int × Int := if d.1 = 65533 ∧ d.2 = 1 then (0, 0) else ((d.1 : Int), (d.2 : Int))
def finR (v n : Int) : Int × Int := if chOK v = true ∧ ((eb v).length : Int) = n then (v, n) else (0, 0)

theorem l0_end (s : ByteArray) (pos n v : Int) (k : Nat) : spec_l01At.l0 (k + 1) s pos n v n = some (finR v n) := by
  rw [spec_l01At.l0, if_neg (by omega), charOK_eq, Option.bind_some, finR]
  by_cases c : chOK v = true
  · rw [if_pos c, bytes_eq v c, Option.bind_some]
    by_cases c2 : ((eb v).length : Int) = n
    · rw [if_pos c2, if_pos ⟨c, c2⟩]
    · rw [if_neg c2, if_neg (fun h => c2 h.2)]
  · rw [if_neg c, if_neg (fun h => c h.1)]

theorem l0_step (s : ByteArray) (pos i n : Nat) (v : Int) (k : Nat) (hs : s.size ≤ 1048576) (hi : i < n) (hin : pos + i < s.size) (h0 : 0 ≤ v) (h1 : v ≤ 100000000) (b : Nat) (hb : (s.get! (pos + i)).toNat = b) :
    spec_l01At.l0 (k + 1) s (pos : Int) (n : Int) v (i : Int) = if b / 64 = 2 then spec_l01At.l0 k s (pos : Int) (n : Int) (v * 64 + ((b % 64 : Nat) : Int)) ((i + 1 : Nat) : Int) else some (0, 0) := by
  have hlt : b < 256 := by rw [← hb]; exact UInt8.toNat_lt _
  have e1 : Aside0 (wrap64 ((pos : Int) + (i : Int)) = ((pos + i : Nat) : Int)) := ⟨by rw [w64 (by omega) (by omega)]; omega⟩
  have e2 : Aside0 (wrap64 ((i : Int) + 1) = ((i + 1 : Nat) : Int)) := ⟨by rw [w64 (by omega) (by omega)]; omega⟩
  have e3 : Aside0 (wrap64 (b : Int) = (b : Int)) := ⟨w64 (by omega) (by omega)⟩
  rw [spec_l01At.l0, if_pos (by omega), e1.out, if_pos (by omega), if_pos (by omega), bt_get, hb, e3.out, e2.out]
  by_cases c1 : (b : Int) < 128
  · rw [if_pos c1, if_neg (by omega)]
  · rw [if_neg c1]
    by_cases c2 : (b : Int) > 191
    · rw [if_pos c2, if_neg (by omega)]
    · have e4 : wrap64 (wrap64 (wrap64 (v * 64) + (b : Int)) - 128) = v * 64 + ((b % 64 : Nat) : Int) := by
        rw [w64 (x := v * 64) (by omega) (by omega), w64 (x := v * 64 + (b : Int)) (by omega) (by omega), w64 (by omega) (by omega)]; omega
      rw [if_neg c2, if_pos (by omega), e4]

theorem at2 (s : ByteArray) (pos : Nat) (v : Int) (hs : s.size ≤ 1048576) (hp : pos < s.size) (h0 : 0 ≤ v) (h1 : v ≤ 1000) (b1 : Nat) (hb1 : (s.get! (pos + 1)).toNat = b1) :
    Ev (fun k => spec_l01At.j0 k s (pos : Int) 2 v) (if 1 < s.size - pos ∧ b1 / 64 = 2 then finR (v * 64 + ((b1 % 64 : Nat) : Int)) 2 else (0, 0)) := by
  have e1 : Aside0 (wrap64 ((pos : Int) + 2) = ((pos + 2 : Nat) : Int)) := ⟨by rw [w64 (by omega) (by omega)]; omega⟩
  by_cases c : 1 < s.size - pos
  · have hst := fun k => l0_step s pos 1 2 v k hs (by omega) (by omega) h0 (by omega) b1 hb1
    by_cases d : b1 / 64 = 2
    · rw [if_pos ⟨c, d⟩]
      refine Ev.steps 3 (fun k => ?_) (Ev.now _)
      have h := hst (k + 1)
      rw [if_pos d] at h
      rw [spec_l01At.j0, e1.out, if_neg (by omega)]
      exact h.trans (l0_end s _ _ _ _)
    · rw [if_neg (fun h => d h.2)]
      refine Ev.steps 2 (fun k => ?_) (Ev.now _)
      have h := hst k
      rw [if_neg d] at h
      rw [spec_l01At.j0, e1.out, if_neg (by omega)]
      exact h
  · rw [if_neg (fun h => c h.1)]
    refine Ev.step (fun k => ?_) (Ev.now _)
    rw [spec_l01At.j0, e1.out, if_pos (by omega)]

theorem at3 (s : ByteArray) (pos : Nat) (v : Int) (hs : s.size ≤ 1048576) (hp : pos < s.size) (h0 : 0 ≤ v) (h1 : v ≤ 1000) (b1 b2 : Nat) (hb1 : (s.get! (pos + 1)).toNat = b1) (hb2 : (s.get! (pos + 2)).toNat = b2) :
    Ev (fun k => spec_l01At.j0 k s (pos : Int) 3 v) (if 2 < s.size - pos ∧ b1 / 64 = 2 ∧ b2 / 64 = 2 then finR ((v * 64 + ((b1 % 64 : Nat) : Int)) * 64 + ((b2 % 64 : Nat) : Int)) 3 else (0, 0)) := by
  have e1 : Aside0 (wrap64 ((pos : Int) + 3) = ((pos + 3 : Nat) : Int)) := ⟨by rw [w64 (by omega) (by omega)]; omega⟩
  by_cases c : 2 < s.size - pos
  · have hst := fun k => l0_step s pos 1 3 v k hs (by omega) (by omega) h0 (by omega) b1 hb1
    by_cases d : b1 / 64 = 2
    · have hst2 := fun k => l0_step s pos 2 3 (v * 64 + ((b1 % 64 : Nat) : Int)) k hs (by omega) (by omega) (by omega) (by omega) b2 hb2
      by_cases d2 : b2 / 64 = 2
      · rw [if_pos ⟨c, d, d2⟩]
        refine Ev.steps 4 (fun k => ?_) (Ev.now _)
        have h := hst (k + 2)
        rw [if_pos d] at h
        have h2 := hst2 (k + 1)
        rw [if_pos d2] at h2
        rw [spec_l01At.j0, e1.out, if_neg (by omega)]
        exact h.trans (h2.trans (l0_end s _ _ _ _))
      · rw [if_neg (fun h => d2 h.2.2)]
        refine Ev.steps 3 (fun k => ?_) (Ev.now _)
        have h := hst (k + 1)
        rw [if_pos d] at h
        have h2 := hst2 k
        rw [if_neg d2] at h2
        rw [spec_l01At.j0, e1.out, if_neg (by omega)]
        exact h.trans h2
    · rw [if_neg (fun h => d h.2.1)]
      refine Ev.steps 2 (fun k => ?_) (Ev.now _)
      have h := hst k
      rw [if_neg d] at h
      rw [spec_l01At.j0, e1.out, if_neg (by omega)]
      exact h
  · rw [if_neg (fun h => c h.1)]
    refine Ev.step (fun k => ?_) (Ev.now _)
    rw [spec_l01At.j0, e1.out, if_pos (by omega)]

theorem at4 (s : ByteArray) (pos : Nat) (v : Int) (hs : s.size ≤ 1048576) (hp : pos < s.size) (h0 : 0 ≤ v) (h1 : v ≤ 1000) (b1 b2 b3 : Nat) (hb1 : (s.get! (pos + 1)).toNat = b1) (hb2 : (s.get! (pos + 2)).toNat = b2) (hb3 : (s.get! (pos + 3)).toNat = b3) :
    Ev (fun k => spec_l01At.j0 k s (pos : Int) 4 v) (if 3 < s.size - pos ∧ b1 / 64 = 2 ∧ b2 / 64 = 2 ∧ b3 / 64 = 2 then finR (((v * 64 + ((b1 % 64 : Nat) : Int)) * 64 + ((b2 % 64 : Nat) : Int)) * 64 + ((b3 % 64 : Nat) : Int)) 4 else (0, 0)) := by
  have e1 : Aside0 (wrap64 ((pos : Int) + 4) = ((pos + 4 : Nat) : Int)) := ⟨by rw [w64 (by omega) (by omega)]; omega⟩
  by_cases c : 3 < s.size - pos
  · have hst := fun k => l0_step s pos 1 4 v k hs (by omega) (by omega) h0 (by omega) b1 hb1
    by_cases d : b1 / 64 = 2
    · have hst2 := fun k => l0_step s pos 2 4 (v * 64 + ((b1 % 64 : Nat) : Int)) k hs (by omega) (by omega) (by omega) (by omega) b2 hb2
      by_cases d2 : b2 / 64 = 2
      · have hst3 := fun k => l0_step s pos 3 4 ((v * 64 + ((b1 % 64 : Nat) : Int)) * 64 + ((b2 % 64 : Nat) : Int)) k hs (by omega) (by omega) (by omega) (by omega) b3 hb3
        by_cases d3 : b3 / 64 = 2
        · rw [if_pos ⟨c, d, d2, d3⟩]
          refine Ev.steps 5 (fun k => ?_) (Ev.now _)
          have h := hst (k + 3)
          rw [if_pos d] at h
          have h2 := hst2 (k + 2)
          rw [if_pos d2] at h2
          have h3 := hst3 (k + 1)
          rw [if_pos d3] at h3
          rw [spec_l01At.j0, e1.out, if_neg (by omega)]
          exact h.trans (h2.trans (h3.trans (l0_end s _ _ _ _)))
        · rw [if_neg (fun h => d3 h.2.2.2)]
          refine Ev.steps 4 (fun k => ?_) (Ev.now _)
          have h := hst (k + 2)
          rw [if_pos d] at h
          have h2 := hst2 (k + 1)
          rw [if_pos d2] at h2
          have h3 := hst3 k
          rw [if_neg d3] at h3
          rw [spec_l01At.j0, e1.out, if_neg (by omega)]
          exact h.trans (h2.trans h3)
      · rw [if_neg (fun h => d2 h.2.2.1)]
        refine Ev.steps 3 (fun k => ?_) (Ev.now _)
        have h := hst (k + 1)
        rw [if_pos d] at h
        have h2 := hst2 k
        rw [if_neg d2] at h2
        rw [spec_l01At.j0, e1.out, if_neg (by omega)]
        exact h.trans h2
    · rw [if_neg (fun h => d h.2.1)]
      refine Ev.steps 2 (fun k => ?_) (Ev.now _)
      have h := hst k
      rw [if_neg d] at h
      rw [spec_l01At.j0, e1.out, if_neg (by omega)]
      exact h
  · rw [if_neg (fun h => c h.1)]
    refine Ev.step (fun k => ?_) (Ev.now _)
    rw [spec_l01At.j0, e1.out, if_pos (by omega)]

theorem eb_len (v : Int) : ((eb v).length : Int) = if v < 128 then 1 else if v < 2048 then 2 else if v < 65536 then 3 else 4 := by
  unfold eb
  repeat' split
  all_goals simp
theorem finR_ok (v n : Int) (h : chOK v = true) (hl : ((eb v).length : Int) = n) : finR v n = (v, n) := by unfold finR; rw [if_pos ⟨h, hl⟩]
theorem finR_len (v n : Int) (hl : ((eb v).length : Int) ≠ n) : finR v n = (0, 0) := by unfold finR; rw [if_neg (fun h => hl h.2)]
theorem finR_ch (v n : Int) (h : ¬ (chOK v = true)) : finR v n = (0, 0) := by unfold finR; rw [if_neg (fun h' => h h'.1)]
theorem stepR_bad : stepR (65533, 1) = (0, 0) := rfl
theorem stepR_wide (v n : Nat) (h : n ≠ 1) : stepR (v, n) = ((v : Int), (n : Int)) := by unfold stepR; rw [if_neg (fun h' => h h'.2)]

theorem dec1 (m b0 b1 b2 b3 : Nat) (h : b0 < 128) : stepR (Lib.decodeN m b0 b1 b2 b3) = ((b0 : Int), 1) := by
  unfold Lib.decodeN
  rw [if_pos h, stepR, if_neg (by simp only; omega)]; rfl
theorem dec0 (m b0 b1 b2 b3 : Nat) (h : 128 ≤ b0) (h' : b0 < 192) : stepR (Lib.decodeN m b0 b1 b2 b3) = (0, 0) := by
  unfold Lib.decodeN
  rw [if_neg (by omega), if_neg (by omega), if_neg (by omega), if_neg (by omega)]; rfl
theorem dec2 (m b0 b1 b2 b3 : Nat) (h : 192 ≤ b0) (h' : b0 < 224) : stepR (Lib.decodeN m b0 b1 b2 b3) = if 1 < m ∧ b1 / 64 = 2 then finR (((b0 : Int) - 192) * 64 + ((b1 % 64 : Nat) : Int)) 2 else (0, 0) := by
  unfold Lib.decodeN
  rw [if_neg (by omega)]
  by_cases c : 1 < m ∧ b1 / 64 = 2
  · rw [if_pos ⟨by omega, c⟩, if_pos c]
    have e : ((b0 : Int) - 192) * 64 + ((b1 % 64 : Nat) : Int) = ((b0 % 32 * 64 + b1 % 64 : Nat) : Int) := by omega
    rw [e]
    have hv : b0 % 32 * 64 + b1 % 64 < 2048 := by omega
    generalize b0 % 32 * 64 + b1 % 64 = v at *
    by_cases d : v ≥ 128
    · rw [if_pos d, stepR_wide _ _ (by decide), finR_ok _ _ ((chOK_iff _).2 ⟨by omega, by omega, by omega⟩) (by rw [eb_len, if_neg (by omega), if_pos (by omega)])]; rfl
    · rw [if_neg d, stepR_bad, finR_len _ _ (by rw [eb_len, if_pos (by omega)]; decide)]
  · rw [if_neg (fun h => c h.2), if_neg (by omega), if_neg (by omega), if_neg c, stepR_bad]
theorem dec3 (m b0 b1 b2 b3 : Nat) (h : 224 ≤ b0) (h' : b0 < 240) : stepR (Lib.decodeN m b0 b1 b2 b3) = if 2 < m ∧ b1 / 64 = 2 ∧ b2 / 64 = 2 then finR ((((b0 : Int) - 224) * 64 + ((b1 % 64 : Nat) : Int)) * 64 + ((b2 % 64 : Nat) : Int)) 3 else (0, 0) := by
  unfold Lib.decodeN
  rw [if_neg (by omega), if_neg (by omega)]
  by_cases c : 2 < m ∧ b1 / 64 = 2 ∧ b2 / 64 = 2
  · rw [if_pos ⟨by omega, ⟨by omega, c.2.1⟩, c.1, c.2.2⟩, if_pos c]
    have e : (((b0 : Int) - 224) * 64 + ((b1 % 64 : Nat) : Int)) * 64 + ((b2 % 64 : Nat) : Int) = ((b0 % 16 * 4096 + b1 % 64 * 64 + b2 % 64 : Nat) : Int) := by omega
    rw [e]
    have hv : b0 % 16 * 4096 + b1 % 64 * 64 + b2 % 64 < 65536 := by omega
    generalize b0 % 16 * 4096 + b1 % 64 * 64 + b2 % 64 = v at *
    by_cases d : v ≥ 2048
    · by_cases d2 : v < 55296 ∨ 57344 ≤ v ∧ v ≤ 1114111
      · rw [if_pos ⟨d, d2⟩, stepR_wide _ _ (by decide), finR_ok _ _ ((chOK_iff _).2 ⟨by omega, by omega, by omega⟩) (by rw [eb_len, if_neg (by omega), if_neg (by omega), if_pos (by omega)])]; rfl
      · rw [if_neg (fun h => d2 h.2), stepR_bad, finR_ch _ _ (fun h => by have := (chOK_iff _).1 h; omega)]
    · rw [if_neg (fun h => d h.1), stepR_bad, finR_len _ _ (by rw [eb_len]; split <;> (try split) <;> omega)]
  · rw [if_neg (fun h => c ⟨h.2.2.1, h.2.1.2, h.2.2.2⟩), if_neg (by omega), if_neg c, stepR_bad]
theorem dec4 (m b0 b1 b2 b3 : Nat) (h : 240 ≤ b0) (h' : b0 < 256) : stepR (Lib.decodeN m b0 b1 b2 b3) = if 3 < m ∧ b1 / 64 = 2 ∧ b2 / 64 = 2 ∧ b3 / 64 = 2 then finR (((((b0 : Int) - 240) * 64 + ((b1 % 64 : Nat) : Int)) * 64 + ((b2 % 64 : Nat) : Int)) * 64 + ((b3 % 64 : Nat) : Int)) 4 else (0, 0) := by
  unfold Lib.decodeN
  rw [if_neg (by omega), if_neg (by omega), if_neg (by omega)]
  by_cases c : 3 < m ∧ b1 / 64 = 2 ∧ b2 / 64 = 2 ∧ b3 / 64 = 2
  · rw [if_pos c]
    by_cases g : b0 < 248
    · rw [if_pos ⟨by omega, ⟨by omega, c.2.1⟩, ⟨by omega, c.2.2.1⟩, c.1, c.2.2.2⟩]
      have e : ((((b0 : Int) - 240) * 64 + ((b1 % 64 : Nat) : Int)) * 64 + ((b2 % 64 : Nat) : Int)) * 64 + ((b3 % 64 : Nat) : Int) = ((b0 % 8 * 262144 + b1 % 64 * 4096 + b2 % 64 * 64 + b3 % 64 : Nat) : Int) := by omega
      rw [e]
      generalize b0 % 8 * 262144 + b1 % 64 * 4096 + b2 % 64 * 64 + b3 % 64 = v at *
      by_cases d : v ≥ 65536
      · by_cases d2 : v < 55296 ∨ 57344 ≤ v ∧ v ≤ 1114111
        · rw [if_pos ⟨d, d2⟩, stepR_wide _ _ (by decide), finR_ok _ _ ((chOK_iff _).2 ⟨by omega, by omega, by omega⟩) (by rw [eb_len, if_neg (by omega), if_neg (by omega), if_neg (by omega)])]; rfl
        · rw [if_neg (fun h => d2 h.2), stepR_bad, finR_ch _ _ (fun h => by have := (chOK_iff _).1 h; omega)]
      · rw [if_neg (fun h => d h.1), stepR_bad, finR_len _ _ (by rw [eb_len]; split <;> (try split) <;> (try split) <;> omega)]
    · rw [if_neg (by omega), stepR_bad, finR_ch _ _ (fun h => by have := (chOK_iff _).1 h; omega)]
  · rw [if_neg (fun h => c ⟨h.2.2.2.1, h.2.1.2, h.2.2.1.2, h.2.2.2.2⟩), if_neg c, stepR_bad]

theorem at_step (s : ByteArray) (pos : Nat) (hs : s.size ≤ 1048576) (hp : pos < s.size) : Ev (fun k => spec_l01At.f k s (pos : Int)) (stepR (Utf8.decode s pos)) := by
  rw [Lib.decode_at]
  generalize hm : s.size - pos = m
  obtain ⟨b0, hb0⟩ : ∃ b, (s.get! pos).toNat = b := ⟨_, rfl⟩
  obtain ⟨b1, hb1⟩ : ∃ b, (s.get! (pos + 1)).toNat = b := ⟨_, rfl⟩
  obtain ⟨b2, hb2⟩ : ∃ b, (s.get! (pos + 2)).toNat = b := ⟨_, rfl⟩
  obtain ⟨b3, hb3⟩ : ∃ b, (s.get! (pos + 3)).toNat = b := ⟨_, rfl⟩
  have hlt : b0 < 256 := by rw [← hb0]; exact UInt8.toNat_lt _
  rw [hb0, hb1, hb2, hb3]
  have e3 : Aside0 (wrap64 (b0 : Int) = (b0 : Int)) := ⟨w64 (by omega) (by omega)⟩
  unfold spec_l01At.f
  rw [bt_get, hb0, e3.out]
  refine Ev.pos (by omega) (Ev.pos (by omega) ?_)
  by_cases c1 : b0 < 128
  · rw [dec1 m b0 b1 b2 b3 c1]
    exact Ev.pos (by omega) (Ev.now _)
  · refine Ev.neg (by omega) ?_
    by_cases c2 : b0 ≥ 240
    · have e4 : wrap64 ((b0 : Int) - 240) = (b0 : Int) - 240 := w64 (by omega) (by omega)
      rw [dec4 m b0 b1 b2 b3 c2 hlt, e4, ← hm]
      exact Ev.pos (by omega) (at4 s pos _ hs hp (by omega) (by omega) b1 b2 b3 hb1 hb2 hb3)
    · refine Ev.neg (by omega) ?_
      by_cases c3 : b0 ≥ 224
      · have e4 : wrap64 ((b0 : Int) - 224) = (b0 : Int) - 224 := w64 (by omega) (by omega)
        rw [dec3 m b0 b1 b2 b3 c3 (by omega), e4, ← hm]
        exact Ev.pos (by omega) (at3 s pos _ hs hp (by omega) (by omega) b1 b2 hb1 hb2)
      · refine Ev.neg (by omega) ?_
        by_cases c4 : b0 ≥ 192
        · have e4 : wrap64 ((b0 : Int) - 192) = (b0 : Int) - 192 := w64 (by omega) (by omega)
          rw [dec2 m b0 b1 b2 b3 c4 (by omega), e4, ← hm]
          exact Ev.pos (by omega) (at2 s pos _ hs hp (by omega) (by omega) b1 hb1)
        · rw [dec0 m b0 b1 b2 b3 (by omega) (by omega)]
          exact Ev.neg (by omega) (Ev.now _)

/-! ### The whole text -/
def badAt (s : ByteArray) (pos : Nat) : Bool := decide ((Utf8.decode s pos).1 = 65533 ∧ (Utf8.decode s pos).2 = 1)
def validFrom (s : ByteArray) : Nat → Nat → Bool
  | 0, _ => true
  | n + 1, pos => if pos < s.size then (if badAt s pos then false else validFrom s n (pos + (Utf8.decode s pos).2)) else true

theorem decode_len (s : ByteArray) (pos : Nat) : (Utf8.decode s pos).2 ≤ 4 := by
  rw [Lib.decode_at]
  unfold Lib.decodeN
  repeat' split
  all_goals simp

theorem spec_loop (s : ByteArray) (hs : s.size ≤ 1048576) (fuel : Nat) : ∀ (pos : Nat) (acc : List Int), s.size ≤ pos + fuel → acc.length ≤ pos →
    Ev (fun k => spec_l01Decode.l0 k s acc (pos : Int)) (if validFrom s fuel pos then (acc ++ impl_Decode.runes s fuel pos, true) else ([], false)) := by
  induction fuel with
  | zero =>
    intro pos acc h1 h2
    rw [validFrom, if_pos rfl, impl_Decode.runes, List.append_nil]
    refine Ev.step (fun k => ?_) (Ev.now _)
    rw [spec_l01Decode.l0, if_neg (by omega)]
  | succ n ih =>
    intro pos acc h1 h2
    rw [validFrom, impl_Decode.runes]
    by_cases hp : pos < s.size
    · have hat := at_step s pos hs hp
      have hw := Lib.width_pos s pos
      have hw4 := decode_len s pos
      rw [if_pos hp, if_pos hp]
      refine Ev.step (f := fun k => (spec_l01At.f k s (pos : Int)).bind fun bt120 => if bt120.2 = 0 then some ([], false) else if acc.length < 17592186044416 then spec_l01Decode.l0 k s (acc ++ [bt120.1]) (wrap64 ((pos : Int) + bt120.2)) else none) (fun k => by rw [spec_l01Decode.l0, if_pos (by omega)]) (Ev.bind hat ?_)
      by_cases hb : badAt s pos = true
      · rw [if_pos hb]
        have hb' := of_decide_eq_true hb
        have e : stepR (Utf8.decode s pos) = (0, 0) := by unfold stepR; rw [if_pos hb']
        rw [e]
        exact Ev.pos rfl (Ev.now _)
      · rw [if_neg hb]
        have hb' : ¬ ((Utf8.decode s pos).1 = 65533 ∧ (Utf8.decode s pos).2 = 1) := fun h => hb (decide_eq_true h)
        have e : stepR (Utf8.decode s pos) = (((Utf8.decode s pos).1 : Int), ((Utf8.decode s pos).2 : Int)) := by unfold stepR; rw [if_neg hb']
        have e5 : wrap64 ((pos : Int) + ((Utf8.decode s pos).2 : Int)) = ((pos + (Utf8.decode s pos).2 : Nat) : Int) := by rw [w64 (by omega) (by omega)]; omega
        rw [e]
        simp only
        rw [e5]
        refine Ev.neg (by omega) (Ev.pos (by omega) ?_)
        have h' := ih (pos + (Utf8.decode s pos).2) (acc ++ [((Utf8.decode s pos).1 : Int)]) (by omega) (by simp; omega)
        rw [List.append_assoc] at h'
        exact h'
    · rw [if_neg hp, if_pos rfl, if_neg hp, List.append_nil]
      refine Ev.step (fun k => ?_) (Ev.now _)
      rw [spec_l01Decode.l0, if_neg (by omega)]

theorem decode_drop (s : ByteArray) (pos : Nat) : Lib.decodeL (s.data.toList.drop pos) = Utf8.decode s pos := by
  unfold Lib.decodeL
  have hsz : (⟨(s.data.toList.drop pos).toArray⟩ : ByteArray).size = s.size - pos := by
    show (s.data.toList.drop pos).toArray.size = _
    rw [List.size_toArray, List.length_drop, data_length]
  have hg : ∀ j, (⟨(s.data.toList.drop pos).toArray⟩ : ByteArray).get! j = s.get! (pos + j) := by
    intro j
    rw [← Lib.getD_get!', ← Lib.getD_get!']
    show (s.data.toList.drop pos).getD j 0 = _
    rw [List.getD_eq_getElem?_getD, List.getD_eq_getElem?_getD, List.getElem?_drop]
  rw [Lib.decode_at, Lib.decode_at, hsz, hg, hg, hg, hg]; rfl

theorem valid_from (s : ByteArray) (fuel : Nat) : ∀ pos : Nat, s.size ≤ pos + fuel → Lib.validD (s.data.toList.drop pos) = validFrom s fuel pos := by
  induction fuel with
  | zero =>
    intro pos h
    rw [List.drop_of_length_le (by rw [data_length]; omega), validFrom]; rfl
  | succ n ih =>
    intro pos h
    rw [validFrom]
    by_cases hp : pos < s.size
    · have hne : s.data.toList.drop pos ≠ [] := by
        intro e
        have := congrArg List.length e
        rw [List.length_drop, data_length] at this
        simp at this; omega
      have hw := Lib.width_pos s pos
      rw [if_pos hp, Lib.validD_step _ hne, decode_drop, List.drop_drop, ih (pos + (Utf8.decode s pos).2) (by omega)]
      unfold badAt
      by_cases hb : (Utf8.decode s pos).1 = 65533 ∧ (Utf8.decode s pos).2 = 1
      · rw [if_pos hb, decide_eq_true hb]; rfl
      · rw [if_neg hb, decide_eq_false hb]; rfl
    · rw [if_neg hp, List.drop_of_length_le (by rw [data_length]; omega)]; rfl

theorem valid_all (s : ByteArray) : Lib.validD s.data.toList = validFrom s s.size 0 := by
  have := valid_from s s.size 0 (by omega)
  rwa [List.drop_zero] at this

/-- What both tell of a text. -/
def decTell (s : ByteArray) : List Int × Int := if (s.size : Int) > 65536 then ([], 2) else if Lib.validD s.data.toList = true then (impl_Decode.runes s s.size 0, 0) else ([], 3)
theorem impl_Decode_eq (s : ByteArray) : impl_Decode.f s = some (decTell s) := by
  unfold impl_Decode.f decTell
  split
  · rfl
  · split <;> rfl
theorem runes_length (s : ByteArray) (fuel : Nat) : ∀ pos, (impl_Decode.runes s fuel pos).length ≤ fuel := by
  induction fuel with
  | zero => intro pos; simp [impl_Decode.runes]
  | succ n ih =>
    intro pos
    rw [impl_Decode.runes]
    split
    · rw [List.length_cons]; have := ih (pos + (Utf8.decode s pos).2); omega
    · simp
theorem decTell_length (s : ByteArray) : (decTell s).1.length ≤ 65536 := by
  unfold decTell
  split
  · simp
  · split
    · have := runes_length s s.size 0; simp only; omega
    · simp
theorem l01Decode_eq (s : ByteArray) (hs : s.size ≤ 1048576) : Ev (fun k => spec_l01Decode.f k s) (if Lib.validD s.data.toList = true then (impl_Decode.runes s s.size 0, true) else ([], false)) := by
  have h := spec_loop s hs s.size 0 [] (by omega) (by simp)
  rw [List.nil_append] at h
  rw [valid_all]
  exact h
theorem spec_Decode_eq (s : ByteArray) : Ev (fun k => spec_Decode.f k s) (decTell s) := by
  unfold spec_Decode.f decTell
  by_cases hb : (s.size : Int) > 65536
  · rw [if_pos hb]; exact Ev.pos hb (Ev.now _)
  · rw [if_neg hb]
    refine Ev.neg hb (Ev.bind (l01Decode_eq s (by omega)) ?_)
    by_cases hv : Lib.validD s.data.toList = true
    · rw [if_pos hv, if_pos hv]; exact Ev.pos rfl (Ev.now _)
    · rw [if_neg hv, if_neg hv]; exact Ev.neg Bool.false_ne_true (Ev.now _)

/-! ### What a text that is a row of characters decodes to -/
theorem finR_inv (v n a b : Int) (h : finR v n = (a, b)) (hb : b ≠ 0) : chOK a = true ∧ ((eb a).length : Int) = b ∧ b = n := by
  unfold finR at h
  split at h
  · rename_i c
    have h1 : v = a := congrArg Prod.fst h
    have h2 : n = b := congrArg Prod.snd h
    subst h1; subst h2
    exact ⟨c.1, c.2, rfl⟩
  · have h2 : (0 : Int) = b := congrArg Prod.snd h
    omega
theorem good_step (s : ByteArray) (pos : Nat) (hp : pos < s.size) (hb : ¬ badAt s pos = true) :
    chOK ((Utf8.decode s pos).1 : Int) = true ∧ (eb ((Utf8.decode s pos).1 : Int)).length = (Utf8.decode s pos).2 ∧ pos + (Utf8.decode s pos).2 ≤ s.size := by
  have hw := Lib.width_pos s pos
  have hb' : ¬ ((Utf8.decode s pos).1 = 65533 ∧ (Utf8.decode s pos).2 = 1) := fun h => hb (decide_eq_true h)
  have e : stepR (Utf8.decode s pos) = (((Utf8.decode s pos).1 : Int), ((Utf8.decode s pos).2 : Int)) := by unfold stepR; rw [if_neg hb']
  have hd := Lib.decode_at s pos
  have hlt : (s.get! pos).toNat < 256 := UInt8.toNat_lt _
  generalize hm : s.size - pos = m at hd
  generalize (s.get! pos).toNat = b0 at hd hlt
  generalize (s.get! (pos + 1)).toNat = b1 at hd
  generalize (s.get! (pos + 2)).toNat = b2 at hd
  generalize (s.get! (pos + 3)).toNat = b3 at hd
  clear hb hb'
  generalize Utf8.decode s pos = d at *
  have fin : ∀ (c : Prop) [Decidable c] (v : Int) (n : Nat), stepR (Lib.decodeN m b0 b1 b2 b3) = (if c then finR v (n : Int) else (0, 0)) → (c → n ≤ m) → chOK (d.1 : Int) = true ∧ (eb (d.1 : Int)).length = d.2 ∧ pos + d.2 ≤ s.size := by
    intro c _ v n h hc
    rw [← hd] at h
    rw [e] at h
    by_cases g : c
    · rw [if_pos g] at h
      have := finR_inv _ _ _ _ h.symm (by omega)
      have := hc g
      exact ⟨(finR_inv _ _ _ _ h.symm (by omega)).1, by omega, by omega⟩
    · rw [if_neg g] at h
      have h2 : (d.2 : Int) = 0 := congrArg Prod.snd h
      omega
  by_cases c1 : b0 < 128
  · have h := dec1 m b0 b1 b2 b3 c1
    rw [← hd] at h; rw [e] at h
    have h1 : (d.1 : Int) = b0 := congrArg Prod.fst h
    have h2 : (d.2 : Int) = 1 := congrArg Prod.snd h
    refine ⟨(chOK_iff _).2 (by omega), ?_, by omega⟩
    have := eb_len (d.1 : Int)
    rw [if_pos (by omega)] at this
    omega
  · by_cases c2 : b0 ≥ 240
    · exact fin _ _ 4 (dec4 m b0 b1 b2 b3 c2 hlt) (fun h => by omega)
    · by_cases c3 : b0 ≥ 224
      · exact fin _ _ 3 (dec3 m b0 b1 b2 b3 c3 (by omega)) (fun h => by omega)
      · by_cases c4 : b0 ≥ 192
        · exact fin _ _ 2 (dec2 m b0 b1 b2 b3 c4 (by omega)) (fun h => by omega)
        · have h := dec0 m b0 b1 b2 b3 (by omega) (by omega)
          rw [← hd] at h; rw [e] at h
          have h2 : (d.2 : Int) = 0 := congrArg Prod.snd h
          omega
theorem runes_good (s : ByteArray) (fuel : Nat) : ∀ pos, pos ≤ s.size → validFrom s fuel pos = true → (∀ x, x ∈ impl_Decode.runes s fuel pos → chOK x = true) ∧ pos + (ebs (impl_Decode.runes s fuel pos)).length ≤ s.size := by
  induction fuel with
  | zero => intro pos hp _; simp [impl_Decode.runes, ebs]; exact hp
  | succ n ih =>
    intro pos hp hv
    rw [validFrom] at hv
    rw [impl_Decode.runes]
    by_cases h : pos < s.size
    · rw [if_pos h] at hv ⊢
      by_cases hb : badAt s pos = true
      · rw [if_pos hb] at hv; cases hv
      · rw [if_neg hb] at hv
        obtain ⟨g1, g2, g3⟩ := good_step s pos h hb
        obtain ⟨i1, i2⟩ := ih _ g3 hv
        have e : ebs (((Utf8.decode s pos).1 : Int) :: impl_Decode.runes s n (pos + (Utf8.decode s pos).2)) = eb ((Utf8.decode s pos).1 : Int) ++ ebs (impl_Decode.runes s n (pos + (Utf8.decode s pos).2)) := by simp [ebs]
        refine ⟨fun x hx => ?_, ?_⟩
        · rcases List.mem_cons.1 hx with rfl | hx
          · exact g1
          · exact i1 x hx
        · rw [e, List.length_append]; omega
    · rw [if_neg h]; simp [ebs]; exact hp
theorem decTell_good (s : ByteArray) (h : (decTell s).2 = 0) : s.size ≤ 65536 ∧ Lib.validD s.data.toList = true ∧ (decTell s).1 = impl_Decode.runes s s.size 0 ∧ (∀ x, x ∈ (decTell s).1 → chOK x = true) ∧ (ebs (decTell s).1).length ≤ 65536 := by
  unfold decTell at *
  by_cases c : (s.size : Int) > 65536
  · rw [if_pos c] at h; cases h
  · rw [if_neg c] at h ⊢
    by_cases v : Lib.validD s.data.toList = true
    · rw [if_pos v] at h ⊢
      have := runes_good s s.size 0 (by omega) (by rw [← valid_all]; exact v)
      exact ⟨by omega, v, rfl, this.1, by have := this.2; simp only; omega⟩
    · rw [if_neg v] at h; cases h

/-! ### A text is the bytes of its characters, one behind the other -/
theorem take4 (n : Nat) (l : List Int) (h4 : n ≤ 4) (hn : n ≤ l.length) : l.take n = ([l.getD 0 0, l.getD 1 0, l.getD 2 0, l.getD 3 0] : List Int).take n := by
  have h : n = 0 ∨ n = 1 ∨ n = 2 ∨ n = 3 ∨ n = 4 := by omega
  rcases h with rfl | rfl | rfl | rfl | rfl
  · rfl
  · rcases l with _ | ⟨a, l⟩ <;> first | rfl | (simp at hn; done) | (exfalso; simp at hn; omega)
  · rcases l with _ | ⟨a, _ | ⟨b, l⟩⟩ <;> first | rfl | (simp at hn; done) | (exfalso; simp at hn; omega)
  · rcases l with _ | ⟨a, _ | ⟨b, _ | ⟨c, l⟩⟩⟩ <;> first | rfl | (simp at hn; done) | (exfalso; simp at hn; omega)
  · rcases l with _ | ⟨a, _ | ⟨b, _ | ⟨c, _ | ⟨d, l⟩⟩⟩⟩ <;> first | rfl | (simp at hn; done) | (exfalso; simp at hn; omega)
theorem decN_bytes (m b0 b1 b2 b3 : Nat) (h0 : b0 < 256) (h1 : b1 < 256) (h2 : b2 < 256) (h3 : b3 < 256) (hb : ¬ ((Lib.decodeN m b0 b1 b2 b3).1 = 65533 ∧ (Lib.decodeN m b0 b1 b2 b3).2 = 1)) :
    eb ((Lib.decodeN m b0 b1 b2 b3).1 : Int) = ([(b0 : Int), (b1 : Int), (b2 : Int), (b3 : Int)] : List Int).take (Lib.decodeN m b0 b1 b2 b3).2 := by
  unfold Lib.decodeN at *
  by_cases c1 : b0 < 128
  · rw [if_pos c1]; unfold eb; rw [if_pos (by simp only; omega)]; rfl
  · rw [if_neg c1] at hb ⊢
    by_cases c2 : b0 / 32 = 6 ∧ (1 < m ∧ b1 / 64 = 2)
    · rw [if_pos c2] at hb ⊢
      by_cases c3 : b0 % 32 * 64 + b1 % 64 ≥ 128
      · rw [if_pos c3]
        generalize hv : b0 % 32 * 64 + b1 % 64 = v at *
        have e1 : 192 + (v : Int) / 64 = b0 := by omega
        have e2 : 128 + (v : Int) % 64 = b1 := by omega
        unfold eb
        rw [if_neg (by simp only; omega), if_pos (by simp only; omega)]
        simp only
        rw [e1, e2]; rfl
      · rw [if_neg c3] at hb; exact absurd ⟨rfl, rfl⟩ hb
    · rw [if_neg c2] at hb ⊢
      by_cases c4 : b0 / 16 = 14 ∧ (1 < m ∧ b1 / 64 = 2) ∧ (2 < m ∧ b2 / 64 = 2)
      · rw [if_pos c4] at hb ⊢
        generalize hv : b0 % 16 * 4096 + b1 % 64 * 64 + b2 % 64 = v at *
        split at hb
        · rename_i c5
          rw [if_pos c5]
          have e1 : 224 + (v : Int) / 4096 = b0 := by omega
          have e2 : 128 + (v : Int) / 64 % 64 = b1 := by omega
          have e3 : 128 + (v : Int) % 64 = b2 := by omega
          unfold eb
          rw [if_neg (by simp only; omega), if_neg (by simp only; omega), if_pos (by simp only; omega)]
          simp only
          rw [e1, e2, e3]; rfl
        · exact absurd ⟨rfl, rfl⟩ hb
      · rw [if_neg c4] at hb ⊢
        by_cases c6 : b0 / 8 = 30 ∧ (1 < m ∧ b1 / 64 = 2) ∧ (2 < m ∧ b2 / 64 = 2) ∧ (3 < m ∧ b3 / 64 = 2)
        · rw [if_pos c6] at hb ⊢
          generalize hv : b0 % 8 * 262144 + b1 % 64 * 4096 + b2 % 64 * 64 + b3 % 64 = v at *
          split at hb
          · rename_i c5
            rw [if_pos c5]
            have e1 : 240 + (v : Int) / 262144 = b0 := by omega
            have e2 : 128 + (v : Int) / 4096 % 64 = b1 := by omega
            have e3 : 128 + (v : Int) / 64 % 64 = b2 := by omega
            have e4 : 128 + (v : Int) % 64 = b3 := by omega
            unfold eb
            rw [if_neg (by simp only; omega), if_neg (by simp only; omega), if_neg (by simp only; omega)]
            simp only
            rw [e1, e2, e3, e4]; rfl
          · exact absurd ⟨rfl, rfl⟩ hb
        · rw [if_neg c6] at hb; exact absurd ⟨rfl, rfl⟩ hb
theorem bytes_getD (s : ByteArray) (i : Nat) : (bytesOf s).getD i 0 = ((s.get! i).toNat : Int) := by
  have h := rd_bytesOf s (i : Int)
  rw [rd_nat] at h
  rw [h, bt_get]
theorem good_eb (s : ByteArray) (pos : Nat) (hp : pos < s.size) (hb : ¬ badAt s pos = true) : eb ((Utf8.decode s pos).1 : Int) = ((bytesOf s).drop pos).take (Utf8.decode s pos).2 := by
  obtain ⟨_, _, g3⟩ := good_step s pos hp hb
  have hl := decode_len s pos
  rw [take4 _ _ hl (by rw [List.length_drop, bytesOf_length]; omega)]
  have e : ∀ j, ((bytesOf s).drop pos).getD j 0 = ((s.get! (pos + j)).toNat : Int) := by
    intro j
    rw [← bytes_getD, List.getD_eq_getElem?_getD, List.getElem?_drop, ← List.getD_eq_getElem?_getD]
  rw [e, e, e, e]
  have hb' : ¬ ((Utf8.decode s pos).1 = 65533 ∧ (Utf8.decode s pos).2 = 1) := fun h => hb (decide_eq_true h)
  rw [Lib.decode_at] at hb' ⊢
  exact decN_bytes _ _ _ _ _ (UInt8.toNat_lt _) (UInt8.toNat_lt _) (UInt8.toNat_lt _) (UInt8.toNat_lt _) hb'
theorem ebs_cons (a : Int) (l : List Int) : ebs (a :: l) = eb a ++ ebs l := by simp [ebs]
theorem ebs_app (l m : List Int) : ebs (l ++ m) = ebs l ++ ebs m := by simp [ebs]
theorem all_bytes (s : ByteArray) (fuel : Nat) : ∀ pos, pos ≤ s.size → s.size ≤ pos + fuel → validFrom s fuel pos = true → (bytesOf s).drop pos = ebs (impl_Decode.runes s fuel pos) := by
  induction fuel with
  | zero =>
    intro pos h1 h2 _
    rw [List.drop_of_length_le (by rw [bytesOf_length]; omega), impl_Decode.runes]; rfl
  | succ n ih =>
    intro pos h1 h2 hv
    rw [validFrom] at hv
    rw [impl_Decode.runes]
    by_cases h : pos < s.size
    · rw [if_pos h] at hv ⊢
      by_cases hb : badAt s pos = true
      · rw [if_pos hb] at hv; cases hv
      · rw [if_neg hb] at hv
        obtain ⟨_, _, g3⟩ := good_step s pos h hb
        have hw := Lib.width_pos s pos
        rw [ebs_cons, good_eb s pos h hb, ← ih _ g3 (by omega) hv, ← List.drop_drop, List.take_append_drop]
    · rw [if_neg h, List.drop_of_length_le (by rw [bytesOf_length]; omega)]; rfl
theorem str_bytes (s : ByteArray) : strOfNums (bytesOf s) = s := by
  cases s with
  | mk d =>
    unfold strOfNums bytesOf
    congr 1
    rw [List.map_map]
    have e : ((fun n : Int => UInt8.ofNat n.toNat) ∘ fun b : UInt8 => (b.toNat : Int)) = id := by funext b; simp
    rw [e, List.map_id]
theorem text_back (s : ByteArray) (h : Lib.validD s.data.toList = true) : bytesOf s = ebs (impl_Decode.runes s s.size 0) := by
  have := all_bytes s s.size 0 (by omega) (by omega) (by rw [← valid_all]; exact h)
  rwa [List.drop_zero] at this
theorem cut_bytes (s : ByteArray) (p q : Nat) : s.extract p q = strOfNums (((bytesOf s).take q).drop p) := by
  rw [← str_bytes (s.extract p q)]
  congr 1
  unfold bytesOf
  rw [← List.map_take, ← List.map_drop]
  congr 1
  rw [ByteArray.data_extract, Array.toList_extract]
  rw [List.extract_eq_take_drop, List.drop_take]
theorem ebs_cut (R : List Int) (i j : Nat) (h : i ≤ j) (hj : j ≤ R.length) : ((ebs R).take (ebs (R.take j)).length).drop (ebs (R.take i)).length = ebs ((R.take j).drop i) ∧ (ebs (R.take j)).length = (ebs (R.take i)).length + (ebs ((R.take j).drop i)).length := by
  have e1 : R.take j = R.take i ++ (R.take j).drop i := by
    have := List.take_append_drop i (R.take j)
    rw [List.take_take, Nat.min_eq_left h] at this
    exact this.symm
  have e2 : ebs R = ebs (R.take j) ++ ebs (R.drop j) := by rw [← ebs_app, List.take_append_drop]
  have e3 : ebs (R.take j) = ebs (R.take i) ++ ebs ((R.take j).drop i) := by
    have := congrArg ebs e1
    rwa [ebs_app] at this
  refine ⟨?_, by have := congrArg List.length e3; rwa [List.length_append] at this⟩
  rw [e2, List.take_left, e3, List.drop_left]

/-! ### Both Class functions tell the same kind of a character -/
def letter (a : Int) : Bool := decide ((65 ≤ a ∧ a ≤ 90) ∨ (97 ≤ a ∧ a ≤ 122) ∨ (192 ≤ a ∧ a ≤ 591 ∧ a ≠ 215 ∧ a ≠ 247) ∨ (880 ≤ a ∧ a ≤ 1279))
def clsv (a : Int) : Int := if letter a = true then 1 else if 48 ≤ a ∧ a ≤ 57 then 2 else if a = 39 ∨ a = 95 then 3 else if (12352 ≤ a ∧ a ≤ 12543) ∨ (19968 ≤ a ∧ a ≤ 40959) then 4 else 0

theorem within_eq (a lo hi : Int) : impl_within.f a lo hi = some (decide (lo ≤ a ∧ a ≤ hi)) := by
  unfold impl_within.f
  split
  · congr 1; simp; omega
  · congr 1; simp; omega

theorem s2 (k : Nat) (a : Int) (b : Bool) : spec_Class.j2 (k + 1) a b = some (if b = true then 3 else if (12352 ≤ a ∧ a ≤ 12543) ∨ (19968 ≤ a ∧ a ≤ 40959) then 4 else 0) := by
  simp only [spec_Class.j2]
  (repeat' split) <;> first | rfl | (exfalso; omega)

theorem s1 (k : Nat) (a : Int) (b : Bool) : spec_Class.j1 (k + 2) a b = some (if b = true then 2 else if a = 39 ∨ a = 95 then 3 else if (12352 ≤ a ∧ a ≤ 12543) ∨ (19968 ≤ a ∧ a ≤ 40959) then 4 else 0) := by
  simp only [spec_Class.j1, s2]
  by_cases hb : b = true
  · simp [hb]
  · by_cases h39 : a = 39
    · simp [hb, h39]
    · by_cases h95 : a = 95
      · simp [hb, h95]
      · simp [hb, h39, h95]

theorem s0 (k : Nat) (a : Int) (b : Bool) : spec_Class.j0 (k + 3) a b = some (if b = true then 1 else if 48 ≤ a ∧ a ≤ 57 then 2 else if a = 39 ∨ a = 95 then 3 else if (12352 ≤ a ∧ a ≤ 12543) ∨ (19968 ≤ a ∧ a ≤ 40959) then 4 else 0) := by
  simp only [spec_Class.j0, s1]
  by_cases hb : b = true
  · simp [hb]
  · by_cases h1 : a ≥ 48
    · have h1' : 48 ≤ a := h1
      simp [hb, h1']
    · have h1' : ¬ 48 ≤ a := h1
      simp [hb, h1']

theorem sf (k : Nat) (a : Int) : spec_Class.f k a = spec_Class.j0 k a (letter a) := by
  unfold spec_Class.f
  (repeat' split) <;> (congr 1; rw [Bool.eq_iff_iff]; simp [letter]; try omega)

theorem i1 (k : Nat) (a : Int) (b : Bool) : impl_Class.j1 (k + 1) a b = some (if b = true then 3 else if (12352 ≤ a ∧ a ≤ 12543) ∨ (19968 ≤ a ∧ a ≤ 40959) then 4 else 0) := by
  simp only [impl_Class.j1, within_eq, Option.bind_some, decide_eq_true_eq]
  (repeat' split) <;> first | rfl | (exfalso; omega)

theorem i0 (k : Nat) (a : Int) (b : Bool) : impl_Class.j0 (k + 2) a b = some (if b = true then 1 else if 48 ≤ a ∧ a ≤ 57 then 2 else if a = 39 ∨ a = 95 then 3 else if (12352 ≤ a ∧ a ≤ 12543) ∨ (19968 ≤ a ∧ a ≤ 40959) then 4 else 0) := by
  simp only [impl_Class.j0, within_eq, Option.bind_some, decide_eq_true_eq, i1]
  by_cases hb : b = true
  · simp [hb]
  · by_cases h1 : 48 ≤ a ∧ a ≤ 57
    · simp [hb, h1]
    · by_cases h39 : a = 39
      · simp [hb, h39]
      · by_cases h95 : a = 95
        · simp [hb, h95]
        · simp [hb, h1, h39, h95]

theorem iff (k : Nat) (a : Int) : impl_Class.f k a = impl_Class.j0 k a (letter a) := by
  unfold impl_Class.f
  simp only [within_eq, Option.bind_some, decide_eq_true_eq]
  (repeat' split) <;> (congr 1; rw [Bool.eq_iff_iff]; simp [letter]; try omega)


theorem cls_v (a : Int) : impl_Break.cls a = clsv a := by
  unfold impl_Break.cls
  rw [iff, i0 0]; rfl
theorem spec_cls (a : Int) : Ev (fun k => spec_Class.f k a) (impl_Break.cls a) := Ev.from 2 (fun k hk => by
  obtain ⟨k, rfl⟩ : ∃ m, k = m + 3 := ⟨k - 3, by omega⟩
  rw [sf, s0, cls_v]; rfl)
def inn (x : Int) : Bool := impl_Break.cls x == 1 || impl_Break.cls x == 2
theorem spec_inn (a : Int) : Ev (fun k => spec_l01Inner.f k a) (inn a) := by
  refine Ev.congr (f := fun k => (spec_Class.f k a).bind fun t => if t = 1 then some true else some (t == 2)) (fun k => rfl) (Ev.bind (spec_cls a) ?_)
  unfold inn
  by_cases h : impl_Break.cls a = 1
  · rw [h]; exact Ev.pos rfl (Ev.now _)
  · rw [beq_eq_false_iff_ne.2 h, Bool.false_or]; exact Ev.neg h (Ev.now _)
theorem sol_in (R : List Int) (i : Nat) (h : i < R.length) : impl_Break.sol R (i : Int) = inn (rd R (i : Int)) := by
  unfold impl_Break.sol inn
  rw [decide_eq_true (show (0 : Int) ≤ (i : Int) by omega), decide_eq_true (show (i : Int) < (R.length : Int) by omega)]; rfl
theorem sol_out (R : List Int) (x : Int) (h : ¬ x < (R.length : Int)) : impl_Break.sol R x = false := by
  unfold impl_Break.sol
  rw [decide_eq_false h, Bool.and_false, Bool.false_and]
theorem cond_out (R : List Int) (x : Int) (h : ¬ x < (R.length : Int)) : impl_Break.cond R x = false := by
  unfold impl_Break.cond
  rw [sol_out R x h, decide_eq_false h]; simp
theorem wn1 (i : Nat) (h : i ≤ 281474976710656) : wrap64 ((i : Int) + 1) = ((i + 1 : Nat) : Int) := by rw [w64 (by omega) (by omega)]; omega
theorem runEnd_ok2 (R : List Int) (n : Nat) : ∀ j, j ≤ R.length → j ≤ impl_Break.runEnd R n j ∧ impl_Break.runEnd R n j ≤ R.length := by
  induction n with
  | zero => intro j hj; exact ⟨Nat.le_refl _, hj⟩
  | succ n ih =>
    intro j hj
    rw [impl_Break.runEnd]
    by_cases c : impl_Break.cond R (j : Int) = true
    · rw [if_pos c]
      have hlt : j < R.length := by
        unfold impl_Break.cond impl_Break.sol at c
        by_cases h : j < R.length
        · exact h
        · have e : decide ((j : Int) < (R.length : Int)) = false := decide_eq_false (by omega)
          rw [e] at c
          simp at c
      have := ih (j + 1) (by omega)
      omega
    · rw [if_neg c]; exact ⟨Nat.le_refl _, hj⟩
theorem run_l1 (R : List Int) (out : List S53) (p : Int) (i : Nat) (hi : i < R.length) (h4 : impl_Break.cls (rd R (i : Int)) ≠ 4) (hn : R.length ≤ 65536) (r : List S53 × Int) (n : Nat) :
    ∀ j : Nat, i < j → j ≤ R.length → R.length ≤ j + n → Ev (fun k => spec_Break.j3 k R out p (i : Int) ((impl_Break.runEnd R n j : Nat) : Int)) r → Ev (fun k => spec_Break.l1 k R out p (i : Int) (j : Int)) r := by
  have fin : ∀ j : Nat, j = R.length → Ev (fun k => spec_Break.j3 k R out p (i : Int) (j : Int)) r → Ev (fun k => spec_Break.l1 k R out p (i : Int) (j : Int)) r := by
    intro j hj h
    exact Ev.step (fun k => by rw [spec_Break.l1, if_neg (by omega)]) h
  induction n with
  | zero =>
    intro j h1 h2 h3 h
    exact fin j (by omega) h
  | succ n ih =>
    intro j h1 h2 h3 h
    rw [impl_Break.runEnd] at h
    by_cases hj : j < R.length
    · have go : impl_Break.cond R (j : Int) = true → Ev (fun k => spec_Break.l1 k R out p (i : Int) (wrap64 ((j : Int) + 1))) r := by
        intro hc
        rw [if_pos hc] at h
        rw [wn1 j (by omega)]
        exact ih (j + 1) (by omega) (by omega) (by omega) h
      have stop : impl_Break.cond R (j : Int) = false → Ev (fun k => spec_Break.j3 k R out p (i : Int) (j : Int)) r := by
        intro hc
        rwa [if_neg (by rw [hc]; exact Bool.false_ne_true)] at h
      clear h ih fin
      unfold impl_Break.cond at go stop
      rw [sol_in R j hj, decide_eq_true (show (j : Int) < (R.length : Int) by omega), Bool.true_and] at go stop
      refine Ev.step (fun k => by rw [spec_Break.l1, if_pos (by omega), if_pos (by omega), if_pos (by omega), if_pos (by omega)]) ?_
      refine Ev.bind (spec_cls _) (Ev.neg h4 (Ev.pos (by omega) (Ev.bind (spec_inn _) ?_)))
      by_cases a : inn (rd R (j : Int)) = true
      · rw [a] at go ⊢
        exact Ev.pos rfl (go rfl)
      · have a' := Bool.eq_false_iff.2 a
        rw [a'] at go stop ⊢
        rw [Bool.false_or] at go stop
        refine Ev.neg Bool.false_ne_true (Ev.pos (by omega) (Ev.bind (spec_cls _) ?_))
        by_cases c : impl_Break.cls (rd R (j : Int)) = 3
        · rw [c] at go stop ⊢
          obtain ⟨j, rfl⟩ : ∃ m, j = m + 1 := ⟨j - 1, by omega⟩
          have e1 : wrap64 (((j + 1 : Nat) : Int) - 1) = (j : Int) := by rw [w64 (by omega) (by omega)]; omega
          have e2 : ((j + 1 : Nat) : Int) - 1 = (j : Int) := by omega
          rw [e2, sol_in R j (by omega)] at go stop
          rw [e1]
          refine Ev.pos rfl (Ev.pos (by omega) (Ev.pos (by omega) (Ev.bind (spec_inn _) ?_)))
          by_cases b : inn (rd R (j : Int)) = true
          · rw [b] at go stop ⊢
            rw [wn1 (j + 1) (by omega)] at go ⊢
            have e3 : ((j + 1 : Nat) : Int) + 1 = ((j + 1 + 1 : Nat) : Int) := rfl
            rw [e3] at go stop
            refine Ev.pos rfl ?_
            by_cases d : j + 1 + 1 < R.length
            · rw [sol_in R _ d] at go stop
              refine Ev.pos (by omega) (Ev.pos (by omega) (Ev.bind (spec_inn _) ?_))
              by_cases f : inn (rd R ((j + 1 + 1 : Nat) : Int)) = true
              · rw [f] at go ⊢
                exact Ev.pos rfl (go rfl)
              · have f' := Bool.eq_false_iff.2 f
                rw [f'] at stop ⊢
                exact Ev.neg Bool.false_ne_true (stop rfl)
            · rw [sol_out R _ (by omega)] at stop
              exact Ev.neg (by omega) (stop rfl)
          · have b' := Bool.eq_false_iff.2 b
            rw [b'] at stop ⊢
            exact Ev.neg Bool.false_ne_true (stop (by simp))
        · rw [beq_eq_false_iff_ne.2 c] at stop
          exact Ev.neg c (stop rfl)
    · rw [if_neg (by rw [cond_out R _ (by omega)]; exact Bool.false_ne_true)] at h
      exact fin j (by omega) h
theorem toks_len (s : ByteArray) (R AT : List Int) (n : Nat) : ∀ i out, out.length ≤ (impl_Break.toks s R AT n i out).length := by
  induction n with
  | zero => intro i out; exact Nat.le_refl _
  | succ n ih =>
    intro i out
    rw [impl_Break.toks]
    split
    · split
      · refine Nat.le_trans ?_ (ih _ _); simp
      · split
        · refine Nat.le_trans ?_ (ih _ _); simp
        · exact ih _ _
    · exact Nat.le_refl _
def finB (l : List S53) : List S53 × Int := if 8192 < l.length then ([], 11) else (l, 0)
/-- What is known of the characters R of the text s and of their places AT. -/
structure TX (s : ByteArray) (R AT : List Int) : Prop where
  len : R.length ≤ 65536
  ch : ∀ i, i < R.length → chOK (R.getD i 0) = true
  at_ : ∀ i, i ≤ R.length → rd AT (i : Int) = ((ebs (R.take i)).length : Int)
  by_ : bytesOf s = ebs R
theorem TX.tok {s : ByteArray} {R AT : List Int} (h : TX s R AT) (n i j : Nat) (hij : i ≤ j) (hj : j ≤ R.length) : impl_Break.tok s n (rd AT (i : Int)) (rd AT (j : Int)) = ⟨strOfNums (ebs ((R.take j).drop i)), (n : Int), ((ebs (R.take i)).length : Int), ((ebs (R.take j)).length : Int)⟩ := by
  unfold impl_Break.tok
  rw [h.at_ i (by omega), h.at_ j hj, cut_bytes, Int.toNat_natCast, Int.toNat_natCast, h.by_, (ebs_cut R i j hij hj).1]
theorem getD_mid (R : List Int) (i j a : Nat) (h : a < ((R.take j).drop i).length) : ((R.take j).drop i).getD a 0 = R.getD (i + a) 0 ∧ i + a < R.length := by
  rw [List.length_drop, List.length_take] at h
  rw [List.getD_eq_getElem?_getD, List.getElem?_drop, List.getElem?_take, if_pos (by omega), ← List.getD_eq_getElem?_getD]
  exact ⟨rfl, by omega⟩
theorem TX.enc {s : ByteArray} {R AT : List Int} (h : TX s R AT) (i j : Nat) : Ev (fun k => spec_l01Encode.f k ((R.take j).drop i)) (strOfNums (ebs ((R.take j).drop i))) := by
  have hl : ((R.take j).drop i).length ≤ R.length := by rw [List.length_drop, List.length_take]; omega
  refine Ev.from ((R.take j).drop i).length (fun k hk => l01Encode_eq _ (by have := h.len; omega) ?_ k hk)
  intro a ha
  obtain ⟨g1, g2⟩ := getD_mid R i j a ha
  rw [g1]; exact h.ch _ g2
theorem push_j3 {s : ByteArray} {R AT : List Int} (h : TX s R AT) (out : List S53) (i m : Nat) (him : i < m) (hm : m ≤ R.length) (ho : out.length ≤ 8192) (r : List S53 × Int)
    (k1 : 8192 < out.length + 1 → r = ([], 11))
    (k2 : ¬ 8192 < out.length + 1 → Ev (fun k => spec_Break.l0 k R (out ++ [impl_Break.tok s out.length (rd AT (i : Int)) (rd AT (m : Int))]) ((ebs (R.take m)).length : Int) (m : Int)) r) :
    Ev (fun k => spec_Break.j3 k R out ((ebs (R.take i)).length : Int) (i : Int) (m : Int)) r := by
  have hn := h.len
  rw [h.tok out.length i m (by omega) hm] at k2
  refine Ev.step (fun k => by rw [spec_Break.j3, if_neg (by omega), if_pos (by omega), if_pos (by omega), if_pos (by omega), Int.toNat_natCast, Int.toNat_natCast]) ?_
  refine Ev.bind (h.enc i m) ?_
  have e1 := (ebs_cut R i m (by omega) hm).2
  have e2 := ebs_length (R.take m)
  have e3 : (R.take m).length ≤ m := List.length_take_le _ _
  have e4 : wrap64 (((ebs (R.take i)).length : Int) + ((strOfNums (ebs ((R.take m).drop i))).size : Int)) = ((ebs (R.take m)).length : Int) := by
    rw [size_ofNums, w64 (by omega) (by omega)]; omega
  rw [e4]
  refine Ev.pos (by omega) ?_
  simp only [Option.bind_some]
  by_cases c : 8192 < out.length + 1
  · refine Ev.pos (by simp; omega) ?_
    rw [k1 c]; exact Ev.now _
  · refine Ev.neg (by simp; omega) ?_
    exact k2 c
theorem spec_toks {s : ByteArray} {R AT : List Int} (h : TX s R AT) (n : Nat) : ∀ (i : Nat) (out : List S53), R.length ≤ i + n → i ≤ R.length → out.length ≤ 8192 →
    Ev (fun k => spec_Break.l0 k R out ((ebs (R.take i)).length : Int) (i : Int)) (finB (impl_Break.toks s R AT n i out)) := by
  have hn := h.len
  have fin : ∀ (i : Nat) (out : List S53), i = R.length → out.length ≤ 8192 → Ev (fun k => spec_Break.l0 k R out ((ebs (R.take i)).length : Int) (i : Int)) (finB out) := by
    intro i out hi ho
    unfold finB
    rw [if_neg (by omega)]
    exact Ev.step (fun k => by rw [spec_Break.l0, if_neg (by omega)]) (Ev.now _)
  induction n with
  | zero => intro i out h1 h2 h3; exact fin i out (by omega) h3
  | succ n ih =>
    intro i out h1 h2 h3
    rw [impl_Break.toks]
    by_cases hi : i < R.length
    · rw [if_pos hi]
      have many : ∀ (m : Nat) (t : S53), 8192 < out.length + 1 → finB (impl_Break.toks s R AT n m (out ++ [t])) = ([], 11) := by
        intro m t hm
        have := toks_len s R AT n m (out ++ [t])
        unfold finB
        rw [if_pos (by rw [List.length_append] at this; simp at this; omega)]
      refine Ev.step (fun k => by rw [spec_Break.l0, if_pos (by omega), if_pos (by omega)]) ?_
      refine Ev.bind (spec_cls _) ?_
      by_cases c : impl_Break.cls (rd R (i : Int)) = 4
      · rw [if_pos c]
        refine Ev.pos c ?_
        rw [wn1 i (by omega)]
        have P := push_j3 h out i (i + 1) (by omega) (by omega) h3 (finB (impl_Break.toks s R AT n (i + 1) (out ++ [impl_Break.tok s out.length (rd AT (i : Int)) (rd AT ((i + 1 : Nat) : Int))]))) (many _ _) (fun hc => ih (i + 1) _ (by omega) (by omega) (by simp; omega))
        refine Ev.step (fun k => by rw [spec_Break.j1]) ?_
        by_cases d : i + 1 < R.length
        · refine Ev.step (fun k => by rw [spec_Break.l1, if_pos (by omega), if_pos (by omega), if_pos (by omega), if_pos (by omega)]) ?_
          exact Ev.bind (spec_cls _) (Ev.pos c P)
        · exact Ev.step (fun k => by rw [spec_Break.l1, if_neg (by omega)]) P
      · rw [if_neg c]
        refine Ev.neg c (Ev.step (fun k => by rw [spec_Break.j1]) ?_)
        refine Ev.step (fun k => by rw [spec_Break.l1, if_pos (by omega), if_pos (by omega), if_pos (by omega), if_pos (by omega)]) ?_
        refine Ev.bind (spec_cls _) (Ev.neg c (Ev.pos (by omega) (Ev.bind (spec_inn _) ?_)))
        rw [sol_in R i hi]
        by_cases a : inn (rd R (i : Int)) = true
        · rw [if_pos a]
          refine Ev.pos a ?_
          rw [wn1 i (by omega)]
          have hre := runEnd_ok2 R R.length (i + 1) (by omega)
          exact run_l1 R out _ i hi c hn _ R.length (i + 1) (by omega) (by omega) (by omega)
            (push_j3 h out i _ (by omega) hre.2 h3 _ (many _ _) (fun hc => ih _ _ (by omega) hre.2 (by simp; omega)))
        · rw [if_neg a]
          refine Ev.neg a ?_
          have e := bytes_eq _ (h.ch i hi)
          rw [← rd_nat] at e
          have hb := eb_length (rd R (i : Int))
          have e2 := ebs_length (R.take (i + 1))
          have e3 : (R.take (i + 1)).length ≤ i + 1 := List.length_take_le _ _
          have e1 : (ebs (R.take (i + 1))).length = (ebs (R.take i)).length + (eb (rd R (i : Int))).length := by rw [ebs_take R i hi, List.length_append, rd_nat]
          have e4 : wrap64 (((ebs (R.take i)).length : Int) + ((eb (rd R (i : Int))).length : Int)) = ((ebs (R.take (i + 1))).length : Int) := by rw [w64 (by omega) (by omega)]; omega
          refine Ev.neg (by omega) ?_
          refine Ev.step (fun k => by rw [spec_Break.j3, if_pos rfl, if_pos (by omega), if_pos (by omega), e, Option.bind_some, e4, wn1 i (by omega)]) ?_
          exact ih (i + 1) out (by omega) (by omega) h3
    · rw [if_neg hi]; exact fin i out (by omega) h3
theorem poss_at (s : ByteArray) (fuel : Nat) : ∀ pos, pos ≤ s.size → s.size ≤ pos + fuel → validFrom s fuel pos = true → ∀ i, i ≤ (impl_Decode.runes s fuel pos).length → (impl_Break.poss s fuel pos ++ [(s.size : Int)]).getD i 0 = (pos : Int) + ((ebs ((impl_Decode.runes s fuel pos).take i)).length : Int) := by
  induction fuel with
  | zero =>
    intro pos h1 h2 _ i hi
    rw [impl_Decode.runes] at hi ⊢
    obtain rfl : i = 0 := by simpa using hi
    rw [impl_Break.poss]
    simp [ebs]; omega
  | succ n ih =>
    intro pos h1 h2 hv i hi
    rw [validFrom] at hv
    rw [impl_Decode.runes] at hi ⊢
    rw [impl_Break.poss]
    by_cases h : pos < s.size
    · rw [if_pos h] at hv hi ⊢
      rw [if_pos h]
      by_cases hb : badAt s pos = true
      · rw [if_pos hb] at hv; cases hv
      · rw [if_neg hb] at hv
        obtain ⟨_, g2, g3⟩ := good_step s pos h hb
        have hw := Lib.width_pos s pos
        cases i with
        | zero => simp [ebs]
        | succ i =>
          rw [List.length_cons] at hi
          rw [List.cons_append, List.getD_cons_succ, List.take_succ_cons, ebs_cons, List.length_append, ih _ g3 (by omega) hv i (by omega), g2]
          omega
    · rw [if_neg h] at hi ⊢
      rw [if_neg h]
      obtain rfl : i = 0 := by simpa using hi
      simp [ebs]; omega
theorem TX_of (s : ByteArray) (hz : s.size ≤ 65536) (h : Lib.validD s.data.toList = true) : TX s (impl_Decode.runes s s.size 0) (impl_Break.poss s s.size 0 ++ [(s.size : Int)]) := by
  have hv : validFrom s s.size 0 = true := by rw [← valid_all]; exact h
  have g := runes_good s s.size 0 (by omega) hv
  refine ⟨by have := runes_length s s.size 0; omega, fun i hi => g.1 _ ?_, fun i hi => ?_, text_back s h⟩
  · rw [List.getD_eq_getElem?_getD, List.getElem?_eq_getElem hi]; exact List.getElem_mem hi
  · rw [rd_nat, poss_at s s.size 0 (by omega) (by omega) hv i hi]; omega
def brTell (s : ByteArray) : List S53 × Int := if (s.size : Int) > 65536 then ([], 2) else if Lib.validD s.data.toList = true then finB (impl_Break.tl s) else ([], 3)
theorem impl_Break_eq (s : ByteArray) : impl_Break.f s = some (brTell s) := by
  unfold impl_Break.f brTell finB
  (repeat' split) <;> rfl
theorem spec_Break_eq (s : ByteArray) : Ev (fun k => spec_Break.f k s) (brTell s) := by
  have hd := spec_Decode_eq s
  unfold brTell spec_Break.f
  unfold decTell at hd
  by_cases hz : (s.size : Int) > 65536
  · rw [if_pos hz] at hd ⊢
    exact Ev.bind hd (Ev.neg (by decide) (Ev.now _))
  · rw [if_neg hz] at hd ⊢
    by_cases hv : Lib.validD s.data.toList = true
    · rw [if_pos hv] at hd ⊢
      refine Ev.bind hd (Ev.pos rfl ?_)
      have h := spec_toks (TX_of s (by omega) hv) (impl_Decode.runes s s.size 0).length 0 [] (by omega) (by omega) (by simp)
      exact h
    · rw [if_neg hv] at hd ⊢
      exact Ev.bind hd (Ev.neg (by decide) (Ev.now _))
theorem brTell_len (s : ByteArray) : (brTell s).1.length ≤ 8192 := by
  unfold brTell finB
  (repeat' split) <;> simp <;> omega

theorem rdT_get (xs : List S53) (i : Nat) (h : i < xs.length) : rd_T53 xs (i : Int) = xs[i] := by
  unfold rd_T53
  rw [Int.toNat_natCast, List.getD_eq_getElem?_getD, List.getElem?_eq_getElem h]; rfl
theorem rdT_set (xs : List S53) (i : Nat) (v : S53) (h : i < xs.length) : rd_T53 (xs.set i v) (i : Int) = v := by
  rw [rdT_get _ _ (by simp; exact h)]; simp
theorem eqTok (v : S53) : laws_eqToken.f v.f0 v.f1 v.f2 v.f3 v.f0 v.f1 v.f2 v.f3 = some true := by
  unfold laws_eqToken.f
  rw [if_pos rfl, if_pos rfl, if_pos rfl, if_pos rfl]
theorem eqTE (xs : List S53) (hn : xs.length ≤ 65536) : Ev (fun k => laws_eqTokenS.f k xs xs) true := by
  unfold laws_eqTokenS.f
  refine Ev.pos rfl ?_
  have key : ∀ d i, i + d = xs.length → Ev (fun k => laws_eqTokenS.l0 k xs xs (i : Int)) true := by
    intro d
    induction d with
    | zero => intro i hi; exact Ev.step (fun k => by rw [laws_eqTokenS.l0, if_neg (by omega)]) (Ev.now _)
    | succ d ih =>
      intro i hi
      refine Ev.step (fun k => ?_) (ih (i + 1) (by omega))
      rw [laws_eqTokenS.l0, if_pos (by omega), if_pos (by omega), if_pos (by omega), eqTok, Option.bind_some, if_pos rfl, wn1 i (by omega)]
  exact key xs.length 0 (by omega)
theorem markText_ex (n : Nat) : ∀ acc : ByteArray, acc.size + n ≤ 9223372036854775000 → ∃ t, Ev (fun k => laws_markText.l0 k (n : Int) acc) t := by
  induction n using Nat.strongRecOn with
  | _ n ih =>
    intro acc h
    by_cases c : n = 0
    · subst c
      refine ⟨(⟨#[109]⟩ : ByteArray) ++ acc, Ev.step (fun k => ?_) (Ev.now _)⟩
      rw [laws_markText.l0, if_neg (by omega), if_pos (by omega)]
    · have e0 : wrap64 (Int.tdiv (n : Int) 10) = ((n / 10 : Nat) : Int) := by rw [Int.tdiv_eq_ediv_of_nonneg (by omega), w64 (by omega) (by omega)]; omega
      generalize hy : (strOfNums ([(wrap64 (48 + (Int.tmod (n : Int) 10))) % 256] : List Int)) = y
      have hz : y.size = 1 := by rw [← hy]; simp [strOfNums, ByteArray.size]
      obtain ⟨t, ht⟩ := ih (n / 10) (by omega) (y ++ acc) (by rw [ByteArray.size_append]; omega)
      refine ⟨t, Ev.step (fun k => ?_) ht⟩
      rw [laws_markText.l0, if_pos (by omega), Option.bind_some, hy, if_pos (by omega), e0]
theorem markText_ev (n : Nat) (h : n ≤ 9223372036854775000) : ∃ t, Ev (fun k => laws_markText.f k (n : Int)) t := by
  unfold laws_markText.f
  by_cases c : (n : Int) ≤ 0
  · exact ⟨_, Ev.pos c (Ev.now _)⟩
  · obtain ⟨t, ht⟩ := markText_ex n (⟨#[]⟩ : ByteArray) (by show 0 + n ≤ _; omega)
    exact ⟨t, Ev.neg c ht⟩
theorem markTE (xs : List S53) (hn : xs.length ≤ 65536) : ∃ ys : List S53, ys.length = xs.length ∧ Ev (fun k => laws_markTokenS.f k xs 1) (((1 + 4 * xs.length : Nat) : Int), ys) ∧ Ev (fun k => laws_heldTokenS.f k ys 1) ((1 + 4 * xs.length : Nat) : Int) := by
  have hc : ∀ i : Nat, ∃ t, i ≤ 9223372036854775000 → Ev (fun k => laws_markText.f k (i : Int)) t := by
    intro i
    by_cases h : i ≤ 9223372036854775000
    · obtain ⟨t, ht⟩ := markText_ev i h; exact ⟨t, fun _ => ht⟩
    · exact ⟨ByteArray.empty, fun h' => absurd h' h⟩
  obtain ⟨mt, hmt⟩ : ∃ mt : Nat → ByteArray, ∀ i : Nat, i ≤ 9223372036854775000 → Ev (fun k => laws_markText.f k (i : Int)) (mt i) := ⟨fun i => Classical.choose (hc i), fun i => Classical.choose_spec (hc i)⟩
  let tv : Nat → S53 := fun i => ⟨mt (1 + 4 * i), ((1 + 4 * i + 1 : Nat) : Int), ((1 + 4 * i + 2 : Nat) : Int), ((1 + 4 * i + 3 : Nat) : Int)⟩
  let full := (List.range xs.length).map tv
  have hfl : full.length = xs.length := by simp [full]
  have w1 : ∀ i : Nat, i ≤ 65536 → wrap64 (((1 + 4 * i : Nat) : Int) + 1) = ((1 + 4 * i + 1 : Nat) : Int) := fun i hi => wn1 _ (by omega)
  have w2 : ∀ i : Nat, i ≤ 65536 → wrap64 (((1 + 4 * i + 1 : Nat) : Int) + 1) = ((1 + 4 * i + 2 : Nat) : Int) := fun i hi => wn1 _ (by omega)
  have w3 : ∀ i : Nat, i ≤ 65536 → wrap64 (((1 + 4 * i + 2 : Nat) : Int) + 1) = ((1 + 4 * i + 3 : Nat) : Int) := fun i hi => wn1 _ (by omega)
  have w4 : ∀ i : Nat, i ≤ 65536 → wrap64 (((1 + 4 * i + 3 : Nat) : Int) + 1) = ((1 + 4 * (i + 1) : Nat) : Int) := fun i hi => wn1 _ (by omega)
  have hmark : ∀ d i, i + d = xs.length → Ev (fun k => laws_markTokenS.l0 k (full.take i ++ xs.drop i) ((1 + 4 * i : Nat) : Int) (i : Int)) (((1 + 4 * xs.length : Nat) : Int), full) := by
    intro d
    induction d with
    | zero =>
      intro i hi
      obtain rfl : i = xs.length := by omega
      refine Ev.step (fun k => ?_) (Ev.now _)
      rw [laws_markTokenS.l0, if_neg (by simp; omega), List.drop_length, List.append_nil, List.take_of_length_le (by omega)]
    | succ d ih =>
      intro i hi
      have hi' : i < xs.length := by omega
      have hlen : i < (full.take i ++ xs.drop i).length := by simp; omega
      refine Ev.step (f := fun k => (laws_markText.f k ((1 + 4 * i : Nat) : Int)).bind fun t => laws_markTokenS.l0 k ((full.take i ++ xs.drop i).set i ⟨t, ((1 + 4 * i + 1 : Nat) : Int), ((1 + 4 * i + 2 : Nat) : Int), ((1 + 4 * i + 3 : Nat) : Int)⟩) ((1 + 4 * (i + 1) : Nat) : Int) ((i + 1 : Nat) : Int)) (fun k => ?_) (Ev.bind (hmt (1 + 4 * i) (by omega)) ?_)
      · rw [laws_markTokenS.l0, if_pos (by omega), wn1 i (by omega), w1 i (by omega), w2 i (by omega), w3 i (by omega), w4 i (by omega)]
        generalize full.take i ++ xs.drop i = l at hlen
        congr 1
        funext t
        rw [if_pos (by omega)]
        simp only [Option.bind_some, Int.toNat_natCast, rdT_set, List.length_set, hlen, List.set_set]
      · have e : (full.take i ++ xs.drop i).set i (tv i) = full.take (i + 1) ++ xs.drop (i + 1) := by
          rw [List.set_append_right i (tv i) (by simp; omega)]
          simp only [List.length_take]
          rw [Nat.min_eq_left (by omega), Nat.sub_self, List.drop_eq_getElem_cons hi', List.set_cons_zero, List.take_succ_eq_append_getElem (by omega), List.append_assoc]
          have : full[i]'(by omega) = tv i := by simp [full]
          rw [this]; rfl
        have h_ := ih (i + 1) (by omega)
        rw [← e] at h_
        exact h_
  have hheld : ∀ d i, i + d = xs.length → Ev (fun k => laws_heldTokenS.l0 k full ((1 + 4 * i : Nat) : Int) (i : Int)) ((1 + 4 * xs.length : Nat) : Int) := by
    intro d
    induction d with
    | zero =>
      intro i hi
      obtain rfl : i = xs.length := by omega
      refine Ev.step (fun k => ?_) (Ev.now _)
      rw [laws_heldTokenS.l0, if_neg (by omega)]
    | succ d ih =>
      intro i hi
      have hi' : i < full.length := by omega
      have hr : rd_T53 full (i : Int) = tv i := by rw [rdT_get _ _ hi']; simp [full]
      refine Ev.step (fun k => by rw [laws_heldTokenS.l0, if_pos (by omega), if_pos (by omega), hr, wn1 i (by omega), w1 i (by omega), w2 i (by omega), w3 i (by omega), w4 i (by omega)]) ?_
      refine Ev.bind (hmt (1 + 4 * i) (by omega)) ?_
      exact Ev.pos rfl (Ev.pos rfl (Ev.pos rfl (Ev.pos rfl (ih (i + 1) (by omega)))))
  refine ⟨full, hfl, ?_, hheld xs.length 0 (by omega)⟩
  have h := hmark xs.length 0 (by omega)
  rw [List.take_zero, List.nil_append, List.drop_zero] at h
  exact h
theorem FnExactBreak (s : ByteArray) (hs : s.size ≤ 140737488351232) : ∃ k, laws_FnExactBreak.f k s = some true := by
  refine Ev.rounds (g := fun k => laws_FnExactBreak.f k s) ?_
  unfold laws_FnExactBreak.f
  by_cases hb : (s.size : Int) > 1048576
  · exact Ev.pos hb (Ev.now _)
  · refine Ev.neg hb ?_
    have hi := Ev.ofEq (impl_Break_eq s)
    have hs := spec_Break_eq s
    have hl := brTell_len s
    generalize brTell s = z at hi hs hl
    obtain ⟨r, e⟩ := z
    simp only at hl
    have qR := eqTE r (by omega)
    obtain ⟨ys, hy, hm, hh⟩ := markTE r (by omega)
    refine Ev.bind hs ?_
    refine Ev.bind hi ?_
    refine Ev.bind qR ?_
    refine Ev.pos rfl ?_
    simp only [bne_self_eq_false]
    refine Ev.step (fun k => by rw [laws_FnExactBreak.j0]) ?_
    refine Ev.neg Bool.false_ne_true ?_
    refine Ev.bind hm ?_
    refine Ev.bind hh ?_
    refine Ev.neg (by omega) ?_
    refine Ev.pos rfl ?_
    refine Ev.bind hi ?_
    refine Ev.bind qR ?_
    refine Ev.pos rfl ?_
    refine Ev.step (fun k => by rw [laws_FnExactBreak.j1]) ?_
    refine Ev.neg (by simp) ?_
    refine Ev.bind hh ?_
    refine Ev.neg (by omega) ?_
    exact Ev.pos rfl (Ev.now _)

end Go.Proofs.YtcokeankiedfcaaDoor.Pure
