/- Whatever the text and the size, the program's Fragments tells what the reference's Fragments tells and its answer's memory is its own: the law answers true. No condition. -/
import Derived.Test.YtcokeankiedfcaaDoorXFnExactFragmentsx3
import Derived.Test.YtcokeankiedfcaaDoorKit
import Derived.Lib.ItoaNum
import Derived.Lib.Bytes
import Derived.Test.YtcokeankiedfcaaDoorWfFnExactFragments
set_option linter.unusedSimpArgs false
set_option linter.unusedVariables false
namespace Go.Proofs.YtcokeankiedfcaaDoor.Pure
open Go.RowKit Go.Proofs.YtcokeankiedfcaaDoor.XFnExactFragments Go.Proofs.YtcokeankiedfcaaDoorW.PrintWords Go.Proofs.YtcokeankiedfcaaDoorW.PrintLast Go.Proofs.YtcokeankiedfcaaDoorW.PrintMore Go.Proofs.YtcokeankiedfcaaDoor.Kit

theorem Ev.steps {α : Type} {g f : Nat → Option α} {r : α} (c : Nat) (h : ∀ k, g (k + c) = f k) (k : Ev f r) : Ev g r := by
  obtain ⟨K, hK⟩ := k
  refine ⟨K + c, fun n hn => ?_⟩
  have := h (n - c)
  rw [Nat.sub_add_cancel (by omega)] at this
  rw [this]; exact hK _ (by omega)

theorem Ev.pos {α : Type} {c : Prop} [Decidable c] {f g : Nat → Option α} {r : α} (h : c) (k : Ev f r) : Ev (fun n => if c then f n else g n) r := Ev.congr (fun n => if_pos h) k
theorem Ev.neg {α : Type} {c : Prop} [Decidable c] {f g : Nat → Option α} {r : α} (h : ¬ c) (k : Ev g r) : Ev (fun n => if c then f n else g n) r := Ev.congr (fun n => if_neg h) k
theorem Ev.ofEq {α : Type} {x : Option α} {r : α} (h : x = some r) : Ev (fun _ => x) r := ⟨0, fun _ _ => h⟩
theorem Ev.from {α : Type} {g : Nat → Option α} {r : α} (K : Nat) (h : ∀ k, K < k → g k = some r) : Ev g r := ⟨K + 1, fun k hk => h k (by omega)⟩

def eb (a : Int) : List Int := if a < 128 then [a] else if a < 2048 then [192 + a / 64, 128 + a % 64] else if a < 65536 then [224 + a / 4096, 128 + a / 64 % 64, 128 + a % 64] else [240 + a / 262144, 128 + a / 4096 % 64, 128 + a / 64 % 64, 128 + a % 64]
def chOK (a : Int) : Bool := decide (0 ≤ a ∧ a ≤ 1114111 ∧ (a < 55296 ∨ 57343 < a))

theorem chOK_iff (a : Int) : chOK a = true ↔ 0 ≤ a ∧ a ≤ 1114111 ∧ (a < 55296 ∨ 57343 < a) := by simp [chOK]

theorem eb_length (a : Int) : 1 ≤ (eb a).length ∧ (eb a).length ≤ 4 := by
  unfold eb; (repeat' split) <;> simp

theorem charOK_eq (a : Int) : spec_l01CharOK.f a = some (chOK a) := by
  unfold spec_l01CharOK.f chOK
  (repeat' split) <;> (congr 1; rw [Bool.eq_iff_iff]; simp; try omega)

theorem bytes_eq (a : Int) (h : chOK a = true) : spec_l01Bytes.f a = some (eb a) := by
  obtain ⟨h0, h1, _⟩ := (chOK_iff a).1 h
  unfold spec_l01Bytes.f eb
  simp only [Int.tdiv_eq_ediv_of_nonneg h0, Int.tmod_eq_emod_of_nonneg h0]
  have d1 : wrap64 (a / 64) = a / 64 := w64 (by omega) (by omega)
  have d2 : wrap64 (a / 4096) = a / 4096 := w64 (by omega) (by omega)
  have d3 : wrap64 (a / 262144) = a / 262144 := w64 (by omega) (by omega)
  rw [d1, d2, d3]
  have m1 : Int.tmod (a / 64) 64 = a / 64 % 64 := Int.tmod_eq_emod_of_nonneg (by omega)
  have m2 : Int.tmod (a / 4096) 64 = a / 4096 % 64 := Int.tmod_eq_emod_of_nonneg (by omega)
  rw [m1, m2]
  have b0 : wrap64 (128 + a % 64) % 256 = 128 + a % 64 := by rw [w64 (by omega) (by omega)]; omega
  have b1 : wrap64 (128 + a / 64 % 64) % 256 = 128 + a / 64 % 64 := by rw [w64 (by omega) (by omega)]; omega
  have b2 : wrap64 (128 + a / 4096 % 64) % 256 = 128 + a / 4096 % 64 := by rw [w64 (by omega) (by omega)]; omega
  rw [b0, b1, b2]
  by_cases c1 : a < 128
  · rw [if_pos c1, if_pos c1, Int.emod_eq_of_lt h0 (by omega)]
  · rw [if_neg c1, if_neg c1]
    by_cases c2 : a < 2048
    · rw [if_pos c2, if_pos c2, w64 (x := 192 + a / 64) (by omega) (by omega), Int.emod_eq_of_lt (a := 192 + a / 64) (by omega) (by omega)]
    · rw [if_neg c2, if_neg c2]
      by_cases c3 : a < 65536
      · rw [if_pos c3, if_pos c3, w64 (x := 224 + a / 4096) (by omega) (by omega), Int.emod_eq_of_lt (a := 224 + a / 4096) (by omega) (by omega)]
      · rw [if_neg c3, if_neg c3, w64 (x := 240 + a / 262144) (by omega) (by omega), Int.emod_eq_of_lt (a := 240 + a / 262144) (by omega) (by omega)]


def ebs (l : List Int) : List Int := l.flatMap eb

theorem ebs_snoc (l : List Int) (a : Int) : ebs (l ++ [a]) = ebs l ++ eb a := by simp [ebs]
theorem ebs_take (l : List Int) (i : Nat) (h : i < l.length) : ebs (l.take (i + 1)) = ebs (l.take i) ++ eb (l.getD i 0) := by
  rw [List.take_succ_eq_append_getElem h, ebs_snoc, List.getD_eq_getElem?_getD, List.getElem?_eq_getElem h]; rfl
theorem ebs_length (l : List Int) : l.length ≤ (ebs l).length ∧ (ebs l).length ≤ 4 * l.length := by
  induction l with
  | nil => simp [ebs]
  | cons a l ih =>
    have := eb_length a
    have e : ebs (a :: l) = eb a ++ ebs l := by simp [ebs]
    rw [e]; simp only [List.length_append, List.length_cons]; omega
theorem size_ofNums (l : List Int) : (strOfNums l).size = l.length := by
  simp [strOfNums, ByteArray.size]

theorem l01Encode_from (xs : List Int) (hn : xs.length ≤ 34359738368) (hb : ∀ i, i < xs.length → chOK (xs.getD i 0) = true) (d : Nat) : ∀ (k i : Nat), i + d = xs.length → d < k →
    spec_l01Encode.l0 k xs (ebs (xs.take i)) (i : Int) = some (strOfNums (ebs xs)) := by
  induction d with
  | zero =>
    intro k i hi hk
    obtain ⟨k, rfl⟩ : ∃ m, k = m + 1 := ⟨k - 1, by omega⟩
    rw [spec_l01Encode.l0, if_neg (by omega), List.take_of_length_le (by omega)]
  | succ d ih =>
    intro k i hi hk
    obtain ⟨k, rfl⟩ : ∃ m, k = m + 1 := ⟨k - 1, by omega⟩
    have hl := ebs_length (xs.take i)
    have hl2 : (xs.take i).length ≤ i := List.length_take_le _ _
    have he := eb_length (xs.getD i 0)
    rw [spec_l01Encode.l0, if_pos (by omega), if_pos (by omega), rd_nat, bytes_eq _ (hb i (by omega))]
    simp only [Option.bind_some]
    have e : wrap64 ((i : Int) + 1) = ((i + 1 : Nat) : Int) := by rw [w64 (by omega) (by omega)]; omega
    rw [if_pos (by omega), ← ebs_take xs i (by omega), e]
    exact ih k (i + 1) (by omega) (by omega)

theorem l01Encode_eq (xs : List Int) (hn : xs.length ≤ 34359738368) (hb : ∀ i, i < xs.length → chOK (xs.getD i 0) = true) (k : Nat) (hk : xs.length < k) :
    spec_l01Encode.f k xs = some (strOfNums (ebs xs)) := l01Encode_from xs hn hb xs.length k 0 (by omega) hk


theorem bt_get (s : ByteArray) (i : Nat) : bt s (i : Int) = ((s.get! i).toNat : Int) := by
  have h := Lib.getD_get!' s i
  unfold bt
  rw [Int.toNat_natCast]
  by_cases c : i < s.size
  · rw [dif_pos c, ← h, List.getD_eq_getElem?_getD, List.getElem?_eq_getElem (by rw [data_length]; exact c)]; rfl
  · rw [dif_neg c, ← h, List.getD_eq_getElem?_getD, List.getElem?_eq_none (by rw [data_length]; omega)]; rfl

def stepR (d : Nat × Nat) : Int × Int := if d.1 = 65533 ∧ d.2 = 1 then (0, 0) else ((d.1 : Int), (d.2 : Int))
def finR (v n : Int) : Int × Int := if chOK v = true ∧ ((eb v).length : Int) = n then (v, n) else (0, 0)

theorem l0_end (s : ByteArray) (pos n v : Int) (k : Nat) : spec_l01At.l0 (k + 1) s pos n v n = some (finR v n) := by
  rw [spec_l01At.l0, if_neg (by omega), charOK_eq, Option.bind_some, finR]
  by_cases c : chOK v = true
  · rw [if_pos c, bytes_eq v c, Option.bind_some]
    by_cases c2 : ((eb v).length : Int) = n
    · rw [if_pos c2, if_pos ⟨c, c2⟩]
    · rw [if_neg c2, if_neg (fun h => c2 h.2)]
  · rw [if_neg c, if_neg (fun h => c h.1)]

theorem l0_step (s : ByteArray) (pos i n : Nat) (v : Int) (k : Nat) (hs : s.size ≤ 1048576) (hi : i < n) (hin : pos + i < s.size) (h0 : 0 ≤ v) (h1 : v ≤ 100000000) (b : Nat) (hb : (s.get! (pos + i)).toNat = b) :
    spec_l01At.l0 (k + 1) s (pos : Int) (n : Int) v (i : Int) = if b / 64 = 2 then spec_l01At.l0 k s (pos : Int) (n : Int) (v * 64 + ((b % 64 : Nat) : Int)) ((i + 1 : Nat) : Int) else some (0, 0) := by
  have hlt : b < 256 := by rw [← hb]; exact UInt8.toNat_lt _
  have e1 : Aside0 (wrap64 ((pos : Int) + (i : Int)) = ((pos + i : Nat) : Int)) := ⟨by rw [w64 (by omega) (by omega)]; omega⟩
  have e2 : Aside0 (wrap64 ((i : Int) + 1) = ((i + 1 : Nat) : Int)) := ⟨by rw [w64 (by omega) (by omega)]; omega⟩
  have e3 : Aside0 (wrap64 (b : Int) = (b : Int)) := ⟨w64 (by omega) (by omega)⟩
  rw [spec_l01At.l0, if_pos (by omega), e1.out, if_pos (by omega), if_pos (by omega), bt_get, hb, e3.out, e2.out]
  by_cases c1 : (b : Int) < 128
  · rw [if_pos c1, if_neg (by omega)]
  · rw [if_neg c1]
    by_cases c2 : (b : Int) > 191
    · rw [if_pos c2, if_neg (by omega)]
    · have e4 : wrap64 (wrap64 (wrap64 (v * 64) + (b : Int)) - 128) = v * 64 + ((b % 64 : Nat) : Int) := by
        rw [w64 (x := v * 64) (by omega) (by omega), w64 (x := v * 64 + (b : Int)) (by omega) (by omega), w64 (by omega) (by omega)]; omega
      rw [if_neg c2, if_pos (by omega), e4]

theorem at2 (s : ByteArray) (pos : Nat) (v : Int) (hs : s.size ≤ 1048576) (hp : pos < s.size) (h0 : 0 ≤ v) (h1 : v ≤ 1000) (b1 : Nat) (hb1 : (s.get! (pos + 1)).toNat = b1) :
    Ev (fun k => spec_l01At.j0 k s (pos : Int) 2 v) (if 1 < s.size - pos ∧ b1 / 64 = 2 then finR (v * 64 + ((b1 % 64 : Nat) : Int)) 2 else (0, 0)) := by
  have e1 : Aside0 (wrap64 ((pos : Int) + 2) = ((pos + 2 : Nat) : Int)) := ⟨by rw [w64 (by omega) (by omega)]; omega⟩
  by_cases c : 1 < s.size - pos
  · have hst := fun k => l0_step s pos 1 2 v k hs (by omega) (by omega) h0 (by omega) b1 hb1
    by_cases d : b1 / 64 = 2
    · rw [if_pos ⟨c, d⟩]
      refine Ev.steps 3 (fun k => ?_) (Ev.now _)
      have h := hst (k + 1)
      rw [if_pos d] at h
      rw [spec_l01At.j0, e1.out, if_neg (by omega)]
      exact h.trans (l0_end s _ _ _ _)
    · rw [if_neg (fun h => d h.2)]
      refine Ev.steps 2 (fun k => ?_) (Ev.now _)
      have h := hst k
      rw [if_neg d] at h
      rw [spec_l01At.j0, e1.out, if_neg (by omega)]
      exact h
  · rw [if_neg (fun h => c h.1)]
    refine Ev.step (fun k => ?_) (Ev.now _)
    rw [spec_l01At.j0, e1.out, if_pos (by omega)]

theorem at3 (s : ByteArray) (pos : Nat) (v : Int) (hs : s.size ≤ 1048576) (hp : pos < s.size) (h0 : 0 ≤ v) (h1 : v ≤ 1000) (b1 b2 : Nat) (hb1 : (s.get! (pos + 1)).toNat = b1) (hb2 : (s.get! (pos + 2)).toNat = b2) :
    Ev (fun k => spec_l01At.j0 k s (pos : Int) 3 v) (if 2 < s.size - pos ∧ b1 / 64 = 2 ∧ b2 / 64 = 2 then finR ((v * 64 + ((b1 % 64 : Nat) : Int)) * 64 + ((b2 % 64 : Nat) : Int)) 3 else (0, 0)) := by
  have e1 : Aside0 (wrap64 ((pos : Int) + 3) = ((pos + 3 : Nat) : Int)) := ⟨by rw [w64 (by omega) (by omega)]; omega⟩
  by_cases c : 2 < s.size - pos
  · have hst := fun k => l0_step s pos 1 3 v k hs (by omega) (by omega) h0 (by omega) b1 hb1
    by_cases d : b1 / 64 = 2
    · have hst2 := fun k => l0_step s pos 2 3 (v * 64 + ((b1 % 64 : Nat) : Int)) k hs (by omega) (by omega) (by omega) (by omega) b2 hb2
      by_cases d2 : b2 / 64 = 2
      · rw [if_pos ⟨c, d, d2⟩]
        refine Ev.steps 4 (fun k => ?_) (Ev.now _)
        have h := hst (k + 2)
        rw [if_pos d] at h
        have h2 := hst2 (k + 1)
        rw [if_pos d2] at h2
        rw [spec_l01At.j0, e1.out, if_neg (by omega)]
        exact h.trans (h2.trans (l0_end s _ _ _ _))
      · rw [if_neg (fun h => d2 h.2.2)]
        refine Ev.steps 3 (fun k => ?_) (Ev.now _)
        have h := hst (k + 1)
        rw [if_pos d] at h
        have h2 := hst2 k
        rw [if_neg d2] at h2
        rw [spec_l01At.j0, e1.out, if_neg (by omega)]
        exact h.trans h2
    · rw [if_neg (fun h => d h.2.1)]
      refine Ev.steps 2 (fun k => ?_) (Ev.now _)
      have h := hst k
      rw [if_neg d] at h
      rw [spec_l01At.j0, e1.out, if_neg (by omega)]
      exact h
  · rw [if_neg (fun h => c h.1)]
    refine Ev.step (fun k => ?_) (Ev.now _)
    rw [spec_l01At.j0, e1.out, if_pos (by omega)]

theorem at4 (s : ByteArray) (pos : Nat) (v : Int) (hs : s.size ≤ 1048576) (hp : pos < s.size) (h0 : 0 ≤ v) (h1 : v ≤ 1000) (b1 b2 b3 : Nat) (hb1 : (s.get! (pos + 1)).toNat = b1) (hb2 : (s.get! (pos + 2)).toNat = b2) (hb3 : (s.get! (pos + 3)).toNat = b3) :
    Ev (fun k => spec_l01At.j0 k s (pos : Int) 4 v) (if 3 < s.size - pos ∧ b1 / 64 = 2 ∧ b2 / 64 = 2 ∧ b3 / 64 = 2 then finR (((v * 64 + ((b1 % 64 : Nat) : Int)) * 64 + ((b2 % 64 : Nat) : Int)) * 64 + ((b3 % 64 : Nat) : Int)) 4 else (0, 0)) := by
  have e1 : Aside0 (wrap64 ((pos : Int) + 4) = ((pos + 4 : Nat) : Int)) := ⟨by rw [w64 (by omega) (by omega)]; omega⟩
  by_cases c : 3 < s.size - pos
  · have hst := fun k => l0_step s pos 1 4 v k hs (by omega) (by omega) h0 (by omega) b1 hb1
    by_cases d : b1 / 64 = 2
    · have hst2 := fun k => l0_step s pos 2 4 (v * 64 + ((b1 % 64 : Nat) : Int)) k hs (by omega) (by omega) (by omega) (by omega) b2 hb2
      by_cases d2 : b2 / 64 = 2
      · have hst3 := fun k => l0_step s pos 3 4 ((v * 64 + ((b1 % 64 : Nat) : Int)) * 64 + ((b2 % 64 : Nat) : Int)) k hs (by omega) (by omega) (by omega) (by omega) b3 hb3
        by_cases d3 : b3 / 64 = 2
        · rw [if_pos ⟨c, d, d2, d3⟩]
          refine Ev.steps 5 (fun k => ?_) (Ev.now _)
          have h := hst (k + 3)
          rw [if_pos d] at h
          have h2 := hst2 (k + 2)
          rw [if_pos d2] at h2
          have h3 := hst3 (k + 1)
          rw [if_pos d3] at h3
          rw [spec_l01At.j0, e1.out, if_neg (by omega)]
          exact h.trans (h2.trans (h3.trans (l0_end s _ _ _ _)))
        · rw [if_neg (fun h => d3 h.2.2.2)]
          refine Ev.steps 4 (fun k => ?_) (Ev.now _)
          have h := hst (k + 2)
          rw [if_pos d] at h
          have h2 := hst2 (k + 1)
          rw [if_pos d2] at h2
          have h3 := hst3 k
          rw [if_neg d3] at h3
          rw [spec_l01At.j0, e1.out, if_neg (by omega)]
          exact h.trans (h2.trans h3)
      · rw [if_neg (fun h => d2 h.2.2.1)]
        refine Ev.steps 3 (fun k => ?_) (Ev.now _)
        have h := hst (k + 1)
        rw [if_pos d] at h
        have h2 := hst2 k
        rw [if_neg d2] at h2
        rw [spec_l01At.j0, e1.out, if_neg (by omega)]
        exact h.trans h2
    · rw [if_neg (fun h => d h.2.1)]
      refine Ev.steps 2 (fun k => ?_) (Ev.now _)
      have h := hst k
      rw [if_neg d] at h
      rw [spec_l01At.j0, e1.out, if_neg (by omega)]
      exact h
  · rw [if_neg (fun h => c h.1)]
    refine Ev.step (fun k => ?_) (Ev.now _)
    rw [spec_l01At.j0, e1.out, if_pos (by omega)]

theorem eb_len (v : Int) : ((eb v).length : Int) = if v < 128 then 1 else if v < 2048 then 2 else if v < 65536 then 3 else 4 := by
  unfold eb
  repeat' split
  all_goals simp
theorem finR_ok (v n : Int) (h : chOK v = true) (hl : ((eb v).length : Int) = n) : finR v n = (v, n) := by unfold finR; rw [if_pos ⟨h, hl⟩]
theorem finR_len (v n : Int) (hl : ((eb v).length : Int) ≠ n) : finR v n = (0, 0) := by unfold finR; rw [if_neg (fun h => hl h.2)]
theorem finR_ch (v n : Int) (h : ¬ (chOK v = true)) : finR v n = (0, 0) := by unfold finR; rw [if_neg (fun h' => h h'.1)]
theorem stepR_bad : stepR (65533, 1) = (0, 0) := rfl
theorem stepR_wide (v n : Nat) (h : n ≠ 1) : stepR (v, n) = ((v : Int), (n : Int)) := by unfold stepR; rw [if_neg (fun h' => h h'.2)]

theorem dec1 (m b0 b1 b2 b3 : Nat) (h : b0 < 128) : stepR (Lib.decodeN m b0 b1 b2 b3) = ((b0 : Int), 1) := by
  unfold Lib.decodeN
  rw [if_pos h, stepR, if_neg (by simp only; omega)]; rfl
theorem dec0 (m b0 b1 b2 b3 : Nat) (h : 128 ≤ b0) (h' : b0 < 192) : stepR (Lib.decodeN m b0 b1 b2 b3) = (0, 0) := by
  unfold Lib.decodeN
  rw [if_neg (by omega), if_neg (by omega), if_neg (by omega), if_neg (by omega)]; rfl
theorem dec2 (m b0 b1 b2 b3 : Nat) (h : 192 ≤ b0) (h' : b0 < 224) : stepR (Lib.decodeN m b0 b1 b2 b3) = if 1 < m ∧ b1 / 64 = 2 then finR (((b0 : Int) - 192) * 64 + ((b1 % 64 : Nat) : Int)) 2 else (0, 0) := by
  unfold Lib.decodeN
  rw [if_neg (by omega)]
  by_cases c : 1 < m ∧ b1 / 64 = 2
  · rw [if_pos ⟨by omega, c⟩, if_pos c]
    have e : ((b0 : Int) - 192) * 64 + ((b1 % 64 : Nat) : Int) = ((b0 % 32 * 64 + b1 % 64 : Nat) : Int) := by omega
    rw [e]
    have hv : b0 % 32 * 64 + b1 % 64 < 2048 := by omega
    generalize b0 % 32 * 64 + b1 % 64 = v at *
    by_cases d : v ≥ 128
    · rw [if_pos d, stepR_wide _ _ (by decide), finR_ok _ _ ((chOK_iff _).2 ⟨by omega, by omega, by omega⟩) (by rw [eb_len, if_neg (by omega), if_pos (by omega)])]; rfl
    · rw [if_neg d, stepR_bad, finR_len _ _ (by rw [eb_len, if_pos (by omega)]; decide)]
  · rw [if_neg (fun h => c h.2), if_neg (by omega), if_neg (by omega), if_neg c, stepR_bad]
theorem dec3 (m b0 b1 b2 b3 : Nat) (h : 224 ≤ b0) (h' : b0 < 240) : stepR (Lib.decodeN m b0 b1 b2 b3) = if 2 < m ∧ b1 / 64 = 2 ∧ b2 / 64 = 2 then finR ((((b0 : Int) - 224) * 64 + ((b1 % 64 : Nat) : Int)) * 64 + ((b2 % 64 : Nat) : Int)) 3 else (0, 0) := by
  unfold Lib.decodeN
  rw [if_neg (by omega), if_neg (by omega)]
  by_cases c : 2 < m ∧ b1 / 64 = 2 ∧ b2 / 64 = 2
  · rw [if_pos ⟨by omega, ⟨by omega, c.2.1⟩, c.1, c.2.2⟩, if_pos c]
    have e : (((b0 : Int) - 224) * 64 + ((b1 % 64 : Nat) : Int)) * 64 + ((b2 % 64 : Nat) : Int) = ((b0 % 16 * 4096 + b1 % 64 * 64 + b2 % 64 : Nat) : Int) := by omega
    rw [e]
    have hv : b0 % 16 * 4096 + b1 % 64 * 64 + b2 % 64 < 65536 := by omega
    generalize b0 % 16 * 4096 + b1 % 64 * 64 + b2 % 64 = v at *
    by_cases d : v ≥ 2048
    · by_cases d2 : v < 55296 ∨ 57344 ≤ v ∧ v ≤ 1114111
      · rw [if_pos ⟨d, d2⟩, stepR_wide _ _ (by decide), finR_ok _ _ ((chOK_iff _).2 ⟨by omega, by omega, by omega⟩) (by rw [eb_len, if_neg (by omega), if_neg (by omega), if_pos (by omega)])]; rfl
      · rw [if_neg (fun h => d2 h.2), stepR_bad, finR_ch _ _ (fun h => by have := (chOK_iff _).1 h; omega)]
    · rw [if_neg (fun h => d h.1), stepR_bad, finR_len _ _ (by rw [eb_len]; split <;> (try split) <;> omega)]
  · rw [if_neg (fun h => c ⟨h.2.2.1, h.2.1.2, h.2.2.2⟩), if_neg (by omega), if_neg c, stepR_bad]
theorem dec4 (m b0 b1 b2 b3 : Nat) (h : 240 ≤ b0) (h' : b0 < 256) : stepR (Lib.decodeN m b0 b1 b2 b3) = if 3 < m ∧ b1 / 64 = 2 ∧ b2 / 64 = 2 ∧ b3 / 64 = 2 then finR (((((b0 : Int) - 240) * 64 + ((b1 % 64 : Nat) : Int)) * 64 + ((b2 % 64 : Nat) : Int)) * 64 + ((b3 % 64 : Nat) : Int)) 4 else (0, 0) := by
  unfold Lib.decodeN
  rw [if_neg (by omega), if_neg (by omega), if_neg (by omega)]
  by_cases c : 3 < m ∧ b1 / 64 = 2 ∧ b2 / 64 = 2 ∧ b3 / 64 = 2
  · rw [if_pos c]
    by_cases g : b0 < 248
    · rw [if_pos ⟨by omega, ⟨by omega, c.2.1⟩, ⟨by omega, c.2.2.1⟩, c.1, c.2.2.2⟩]
      have e : ((((b0 : Int) - 240) * 64 + ((b1 % 64 : Nat) : Int)) * 64 + ((b2 % 64 : Nat) : Int)) * 64 + ((b3 % 64 : Nat) : Int) = ((b0 % 8 * 262144 + b1 % 64 * 4096 + b2 % 64 * 64 + b3 % 64 : Nat) : Int) := by omega
      rw [e]
      generalize b0 % 8 * 262144 + b1 % 64 * 4096 + b2 % 64 * 64 + b3 % 64 = v at *
      by_cases d : v ≥ 65536
      · by_cases d2 : v < 55296 ∨ 57344 ≤ v ∧ v ≤ 1114111
        · rw [if_pos ⟨d, d2⟩, stepR_wide _ _ (by decide), finR_ok _ _ ((chOK_iff _).2 ⟨by omega, by omega, by omega⟩) (by rw [eb_len, if_neg (by omega), if_neg (by omega), if_neg (by omega)])]; rfl
        · rw [if_neg (fun h => d2 h.2), stepR_bad, finR_ch _ _ (fun h => by have := (chOK_iff _).1 h; omega)]
      · rw [if_neg (fun h => d h.1), stepR_bad, finR_len _ _ (by rw [eb_len]; split <;> (try split) <;> (try split) <;> omega)]
    · rw [if_neg (by omega), stepR_bad, finR_ch _ _ (fun h => by have := (chOK_iff _).1 h; omega)]
  · rw [if_neg (fun h => c ⟨h.2.2.2.1, h.2.1.2, h.2.2.1.2, h.2.2.2.2⟩), if_neg c, stepR_bad]

theorem at_step (s : ByteArray) (pos : Nat) (hs : s.size ≤ 1048576) (hp : pos < s.size) : Ev (fun k => spec_l01At.f k s (pos : Int)) (stepR (Utf8.decode s pos)) := by
  rw [Lib.decode_at]
  generalize hm : s.size - pos = m
  obtain ⟨b0, hb0⟩ : ∃ b, (s.get! pos).toNat = b := ⟨_, rfl⟩
  obtain ⟨b1, hb1⟩ : ∃ b, (s.get! (pos + 1)).toNat = b := ⟨_, rfl⟩
  obtain ⟨b2, hb2⟩ : ∃ b, (s.get! (pos + 2)).toNat = b := ⟨_, rfl⟩
  obtain ⟨b3, hb3⟩ : ∃ b, (s.get! (pos + 3)).toNat = b := ⟨_, rfl⟩
  have hlt : b0 < 256 := by rw [← hb0]; exact UInt8.toNat_lt _
  rw [hb0, hb1, hb2, hb3]
  have e3 : Aside0 (wrap64 (b0 : Int) = (b0 : Int)) := ⟨w64 (by omega) (by omega)⟩
  unfold spec_l01At.f
  rw [bt_get, hb0, e3.out]
  refine Ev.pos (by omega) (Ev.pos (by omega) ?_)
  by_cases c1 : b0 < 128
  · rw [dec1 m b0 b1 b2 b3 c1]
    exact Ev.pos (by omega) (Ev.now _)
  · refine Ev.neg (by omega) ?_
    by_cases c2 : b0 ≥ 240
    · have e4 : wrap64 ((b0 : Int) - 240) = (b0 : Int) - 240 := w64 (by omega) (by omega)
      rw [dec4 m b0 b1 b2 b3 c2 hlt, e4, ← hm]
      exact Ev.pos (by omega) (at4 s pos _ hs hp (by omega) (by omega) b1 b2 b3 hb1 hb2 hb3)
    · refine Ev.neg (by omega) ?_
      by_cases c3 : b0 ≥ 224
      · have e4 : wrap64 ((b0 : Int) - 224) = (b0 : Int) - 224 := w64 (by omega) (by omega)
        rw [dec3 m b0 b1 b2 b3 c3 (by omega), e4, ← hm]
        exact Ev.pos (by omega) (at3 s pos _ hs hp (by omega) (by omega) b1 b2 hb1 hb2)
      · refine Ev.neg (by omega) ?_
        by_cases c4 : b0 ≥ 192
        · have e4 : wrap64 ((b0 : Int) - 192) = (b0 : Int) - 192 := w64 (by omega) (by omega)
          rw [dec2 m b0 b1 b2 b3 c4 (by omega), e4, ← hm]
          exact Ev.pos (by omega) (at2 s pos _ hs hp (by omega) (by omega) b1 hb1)
        · rw [dec0 m b0 b1 b2 b3 (by omega) (by omega)]
          exact Ev.neg (by omega) (Ev.now _)

def badAt (s : ByteArray) (pos : Nat) : Bool := decide ((Utf8.decode s pos).1 = 65533 ∧ (Utf8.decode s pos).2 = 1)
def validFrom (s : ByteArray) : Nat → Nat → Bool
  | 0, _ => true
  | n + 1, pos => if pos < s.size then (if badAt s pos then false else validFrom s n (pos + (Utf8.decode s pos).2)) else true

theorem decode_len (s : ByteArray) (pos : Nat) : (Utf8.decode s pos).2 ≤ 4 := by
  rw [Lib.decode_at]
  unfold Lib.decodeN
  repeat' split
  all_goals simp

theorem spec_loop (s : ByteArray) (hs : s.size ≤ 1048576) (fuel : Nat) : ∀ (pos : Nat) (acc : List Int), s.size ≤ pos + fuel → acc.length ≤ pos →
    Ev (fun k => spec_l01Decode.l0 k s acc (pos : Int)) (if validFrom s fuel pos then (acc ++ impl_Decode.runes s fuel pos, true) else ([], false)) := by
  induction fuel with
  | zero =>
    intro pos acc h1 h2
    rw [validFrom, if_pos rfl, impl_Decode.runes, List.append_nil]
    refine Ev.step (fun k => ?_) (Ev.now _)
    rw [spec_l01Decode.l0, if_neg (by omega)]
  | succ n ih =>
    intro pos acc h1 h2
    rw [validFrom, impl_Decode.runes]
    by_cases hp : pos < s.size
    · have hat := at_step s pos hs hp
      have hw := Lib.width_pos s pos
      have hw4 := decode_len s pos
      rw [if_pos hp, if_pos hp]
      refine Ev.step (f := fun k => (spec_l01At.f k s (pos : Int)).bind fun bt120 => if bt120.2 = 0 then some ([], false) else if acc.length < 17592186044416 then spec_l01Decode.l0 k s (acc ++ [bt120.1]) (wrap64 ((pos : Int) + bt120.2)) else none) (fun k => by rw [spec_l01Decode.l0, if_pos (by omega)]) (Ev.bind hat ?_)
      by_cases hb : badAt s pos = true
      · rw [if_pos hb]
        have hb' := of_decide_eq_true hb
        have e : stepR (Utf8.decode s pos) = (0, 0) := by unfold stepR; rw [if_pos hb']
        rw [e]
        exact Ev.pos rfl (Ev.now _)
      · rw [if_neg hb]
        have hb' : ¬ ((Utf8.decode s pos).1 = 65533 ∧ (Utf8.decode s pos).2 = 1) := fun h => hb (decide_eq_true h)
        have e : stepR (Utf8.decode s pos) = (((Utf8.decode s pos).1 : Int), ((Utf8.decode s pos).2 : Int)) := by unfold stepR; rw [if_neg hb']
        have e5 : wrap64 ((pos : Int) + ((Utf8.decode s pos).2 : Int)) = ((pos + (Utf8.decode s pos).2 : Nat) : Int) := by rw [w64 (by omega) (by omega)]; omega
        rw [e]
        simp only
        rw [e5]
        refine Ev.neg (by omega) (Ev.pos (by omega) ?_)
        have h' := ih (pos + (Utf8.decode s pos).2) (acc ++ [((Utf8.decode s pos).1 : Int)]) (by omega) (by simp; omega)
        rw [List.append_assoc] at h'
        exact h'
    · rw [if_neg hp, if_pos rfl, if_neg hp, List.append_nil]
      refine Ev.step (fun k => ?_) (Ev.now _)
      rw [spec_l01Decode.l0, if_neg (by omega)]

theorem decode_drop (s : ByteArray) (pos : Nat) : Lib.decodeL (s.data.toList.drop pos) = Utf8.decode s pos := by
  unfold Lib.decodeL
  have hsz : (⟨(s.data.toList.drop pos).toArray⟩ : ByteArray).size = s.size - pos := by
    show (s.data.toList.drop pos).toArray.size = _
    rw [List.size_toArray, List.length_drop, data_length]
  have hg : ∀ j, (⟨(s.data.toList.drop pos).toArray⟩ : ByteArray).get! j = s.get! (pos + j) := by
    intro j
    rw [← Lib.getD_get!', ← Lib.getD_get!']
    show (s.data.toList.drop pos).getD j 0 = _
    rw [List.getD_eq_getElem?_getD, List.getD_eq_getElem?_getD, List.getElem?_drop]
  rw [Lib.decode_at, Lib.decode_at, hsz, hg, hg, hg, hg]; rfl

theorem valid_from (s : ByteArray) (fuel : Nat) : ∀ pos : Nat, s.size ≤ pos + fuel → Lib.validD (s.data.toList.drop pos) = validFrom s fuel pos := by
  induction fuel with
  | zero =>
    intro pos h
    rw [List.drop_of_length_le (by rw [data_length]; omega), validFrom]; rfl
  | succ n ih =>
    intro pos h
    rw [validFrom]
    by_cases hp : pos < s.size
    · have hne : s.data.toList.drop pos ≠ [] := by
        intro e
        have := congrArg List.length e
        rw [List.length_drop, data_length] at this
        simp at this; omega
      have hw := Lib.width_pos s pos
      rw [if_pos hp, Lib.validD_step _ hne, decode_drop, List.drop_drop, ih (pos + (Utf8.decode s pos).2) (by omega)]
      unfold badAt
      by_cases hb : (Utf8.decode s pos).1 = 65533 ∧ (Utf8.decode s pos).2 = 1
      · rw [if_pos hb, decide_eq_true hb]; rfl
      · rw [if_neg hb, decide_eq_false hb]; rfl
    · rw [if_neg hp, List.drop_of_length_le (by rw [data_length]; omega)]; rfl

theorem valid_all (s : ByteArray) : Lib.validD s.data.toList = validFrom s s.size 0 := by
  have := valid_from s s.size 0 (by omega)
  rwa [List.drop_zero] at this

def decTell (s : ByteArray) : List Int × Int := if (s.size : Int) > 65536 then ([], 2) else if Lib.validD s.data.toList = true then (impl_Decode.runes s s.size 0, 0) else ([], 3)
theorem impl_Decode_eq (s : ByteArray) : impl_Decode.f s = some (decTell s) := by
  unfold impl_Decode.f decTell
  split
  · rfl
  · split <;> rfl
theorem runes_length (s : ByteArray) (fuel : Nat) : ∀ pos, (impl_Decode.runes s fuel pos).length ≤ fuel := by
  induction fuel with
  | zero => intro pos; simp [impl_Decode.runes]
  | succ n ih =>
    intro pos
    rw [impl_Decode.runes]
    split
    · rw [List.length_cons]; have := ih (pos + (Utf8.decode s pos).2); omega
    · simp
theorem decTell_length (s : ByteArray) : (decTell s).1.length ≤ 65536 := by
  unfold decTell
  split
  · simp
  · split
    · have := runes_length s s.size 0; simp only; omega
    · simp
theorem l01Decode_eq (s : ByteArray) (hs : s.size ≤ 1048576) : Ev (fun k => spec_l01Decode.f k s) (if Lib.validD s.data.toList = true then (impl_Decode.runes s s.size 0, true) else ([], false)) := by
  have h := spec_loop s hs s.size 0 [] (by omega) (by simp)
  rw [List.nil_append] at h
  rw [valid_all]
  exact h
theorem spec_Decode_eq (s : ByteArray) : Ev (fun k => spec_Decode.f k s) (decTell s) := by
  unfold spec_Decode.f decTell
  by_cases hb : (s.size : Int) > 65536
  · rw [if_pos hb]; exact Ev.pos hb (Ev.now _)
  · rw [if_neg hb]
    refine Ev.neg hb (Ev.bind (l01Decode_eq s (by omega)) ?_)
    by_cases hv : Lib.validD s.data.toList = true
    · rw [if_pos hv, if_pos hv]; exact Ev.pos rfl (Ev.now _)
    · rw [if_neg hv, if_neg hv]; exact Ev.neg Bool.false_ne_true (Ev.now _)

theorem finR_inv (v n a b : Int) (h : finR v n = (a, b)) (hb : b ≠ 0) : chOK a = true ∧ ((eb a).length : Int) = b ∧ b = n := by
  unfold finR at h
  split at h
  · rename_i c
    have h1 : v = a := congrArg Prod.fst h
    have h2 : n = b := congrArg Prod.snd h
    subst h1; subst h2
    exact ⟨c.1, c.2, rfl⟩
  · have h2 : (0 : Int) = b := congrArg Prod.snd h
    omega
theorem good_step (s : ByteArray) (pos : Nat) (hp : pos < s.size) (hb : ¬ badAt s pos = true) :
    chOK ((Utf8.decode s pos).1 : Int) = true ∧ (eb ((Utf8.decode s pos).1 : Int)).length = (Utf8.decode s pos).2 ∧ pos + (Utf8.decode s pos).2 ≤ s.size := by
  have hw := Lib.width_pos s pos
  have hb' : ¬ ((Utf8.decode s pos).1 = 65533 ∧ (Utf8.decode s pos).2 = 1) := fun h => hb (decide_eq_true h)
  have e : stepR (Utf8.decode s pos) = (((Utf8.decode s pos).1 : Int), ((Utf8.decode s pos).2 : Int)) := by unfold stepR; rw [if_neg hb']
  have hd := Lib.decode_at s pos
  have hlt : (s.get! pos).toNat < 256 := UInt8.toNat_lt _
  generalize hm : s.size - pos = m at hd
  generalize (s.get! pos).toNat = b0 at hd hlt
  generalize (s.get! (pos + 1)).toNat = b1 at hd
  generalize (s.get! (pos + 2)).toNat = b2 at hd
  generalize (s.get! (pos + 3)).toNat = b3 at hd
  clear hb hb'
  generalize Utf8.decode s pos = d at *
  have fin : ∀ (c : Prop) [Decidable c] (v : Int) (n : Nat), stepR (Lib.decodeN m b0 b1 b2 b3) = (if c then finR v (n : Int) else (0, 0)) → (c → n ≤ m) → chOK (d.1 : Int) = true ∧ (eb (d.1 : Int)).length = d.2 ∧ pos + d.2 ≤ s.size := by
    intro c _ v n h hc
    rw [← hd] at h
    rw [e] at h
    by_cases g : c
    · rw [if_pos g] at h
      have := finR_inv _ _ _ _ h.symm (by omega)
      have := hc g
      exact ⟨(finR_inv _ _ _ _ h.symm (by omega)).1, by omega, by omega⟩
    · rw [if_neg g] at h
      have h2 : (d.2 : Int) = 0 := congrArg Prod.snd h
      omega
  by_cases c1 : b0 < 128
  · have h := dec1 m b0 b1 b2 b3 c1
    rw [← hd] at h; rw [e] at h
    have h1 : (d.1 : Int) = b0 := congrArg Prod.fst h
    have h2 : (d.2 : Int) = 1 := congrArg Prod.snd h
    refine ⟨(chOK_iff _).2 (by omega), ?_, by omega⟩
    have := eb_len (d.1 : Int)
    rw [if_pos (by omega)] at this
    omega
  · by_cases c2 : b0 ≥ 240
    · exact fin _ _ 4 (dec4 m b0 b1 b2 b3 c2 hlt) (fun h => by omega)
    · by_cases c3 : b0 ≥ 224
      · exact fin _ _ 3 (dec3 m b0 b1 b2 b3 c3 (by omega)) (fun h => by omega)
      · by_cases c4 : b0 ≥ 192
        · exact fin _ _ 2 (dec2 m b0 b1 b2 b3 c4 (by omega)) (fun h => by omega)
        · have h := dec0 m b0 b1 b2 b3 (by omega) (by omega)
          rw [← hd] at h; rw [e] at h
          have h2 : (d.2 : Int) = 0 := congrArg Prod.snd h
          omega
theorem runes_good (s : ByteArray) (fuel : Nat) : ∀ pos, pos ≤ s.size → validFrom s fuel pos = true → (∀ x, x ∈ impl_Decode.runes s fuel pos → chOK x = true) ∧ pos + (ebs (impl_Decode.runes s fuel pos)).length ≤ s.size := by
  induction fuel with
  | zero => intro pos hp _; simp [impl_Decode.runes, ebs]; exact hp
  | succ n ih =>
    intro pos hp hv
    rw [validFrom] at hv
    rw [impl_Decode.runes]
    by_cases h : pos < s.size
    · rw [if_pos h] at hv ⊢
      by_cases hb : badAt s pos = true
      · rw [if_pos hb] at hv; cases hv
      · rw [if_neg hb] at hv
        obtain ⟨g1, g2, g3⟩ := good_step s pos h hb
        obtain ⟨i1, i2⟩ := ih _ g3 hv
        have e : ebs (((Utf8.decode s pos).1 : Int) :: impl_Decode.runes s n (pos + (Utf8.decode s pos).2)) = eb ((Utf8.decode s pos).1 : Int) ++ ebs (impl_Decode.runes s n (pos + (Utf8.decode s pos).2)) := by simp [ebs]
        refine ⟨fun x hx => ?_, ?_⟩
        · rcases List.mem_cons.1 hx with rfl | hx
          · exact g1
          · exact i1 x hx
        · rw [e, List.length_append]; omega
    · rw [if_neg h]; simp [ebs]; exact hp
theorem decTell_good (s : ByteArray) (h : (decTell s).2 = 0) : s.size ≤ 65536 ∧ Lib.validD s.data.toList = true ∧ (decTell s).1 = impl_Decode.runes s s.size 0 ∧ (∀ x, x ∈ (decTell s).1 → chOK x = true) ∧ (ebs (decTell s).1).length ≤ 65536 := by
  unfold decTell at *
  by_cases c : (s.size : Int) > 65536
  · rw [if_pos c] at h; cases h
  · rw [if_neg c] at h ⊢
    by_cases v : Lib.validD s.data.toList = true
    · rw [if_pos v] at h ⊢
      have := runes_good s s.size 0 (by omega) (by rw [← valid_all]; exact v)
      exact ⟨by omega, v, rfl, this.1, by have := this.2; simp only; omega⟩
    · rw [if_neg v] at h; cases h

theorem wnS (i : Nat) (h : i ≤ 281474976710656) : wrap64 ((i : Int) + 1) = ((i + 1 : Nat) : Int) := by rw [w64 (by omega) (by omega)]; omega
theorem eqSE (xs : List ByteArray) (hn : xs.length ≤ 140737488351232) : Ev (fun k => laws_eqStringS.f k xs xs) true := by
  unfold laws_eqStringS.f
  refine Ev.pos rfl ?_
  have key : ∀ d i, i + d = xs.length → Ev (fun k => laws_eqStringS.l0 k xs xs (i : Int)) true := by
    intro d
    induction d with
    | zero => intro i hi; exact Ev.step (fun k => by rw [laws_eqStringS.l0, if_neg (by omega)]) (Ev.now _)
    | succ d ih =>
      intro i hi
      refine Ev.step (fun k => ?_) (ih (i + 1) (by omega))
      rw [laws_eqStringS.l0, if_pos (by omega), if_pos (by omega), if_pos (by omega), if_pos rfl, wnS i (by omega)]
  exact key xs.length 0 (by omega)
theorem markText_ex (n : Nat) : ∀ acc : ByteArray, acc.size + n ≤ 9223372036854775000 → ∃ t, Ev (fun k => laws_markText.l0 k (n : Int) acc) t := by
  induction n using Nat.strongRecOn with
  | _ n ih =>
    intro acc h
    by_cases c : n = 0
    · subst c
      refine ⟨(⟨#[109]⟩ : ByteArray) ++ acc, Ev.step (fun k => ?_) (Ev.now _)⟩
      rw [laws_markText.l0, if_neg (by omega), if_pos (by omega)]
    · have e0 : wrap64 (Int.tdiv (n : Int) 10) = ((n / 10 : Nat) : Int) := by rw [Int.tdiv_eq_ediv_of_nonneg (by omega), w64 (by omega) (by omega)]; omega
      generalize hy : (strOfNums ([(wrap64 (48 + (Int.tmod (n : Int) 10))) % 256] : List Int)) = y
      have hz : y.size = 1 := by rw [← hy]; simp [strOfNums, ByteArray.size]
      obtain ⟨t, ht⟩ := ih (n / 10) (by omega) (y ++ acc) (by rw [ByteArray.size_append]; omega)
      refine ⟨t, Ev.step (fun k => ?_) ht⟩
      rw [laws_markText.l0, if_pos (by omega), Option.bind_some, hy, if_pos (by omega), e0]
theorem markText_ev (n : Nat) (h : n ≤ 9223372036854775000) : ∃ t, Ev (fun k => laws_markText.f k (n : Int)) t := by
  unfold laws_markText.f
  by_cases c : (n : Int) ≤ 0
  · exact ⟨_, Ev.pos c (Ev.now _)⟩
  · obtain ⟨t, ht⟩ := markText_ex n (⟨#[]⟩ : ByteArray) (by show 0 + n ≤ _; omega)
    exact ⟨t, Ev.neg c ht⟩
theorem marksSE (xs : List ByteArray) (a : Nat) (hn : xs.length ≤ 140737488351232) (ha : a ≤ 140737488351232) : ∃ ys : List ByteArray, ys.length = xs.length ∧ Ev (fun k => laws_markStringS.f k xs (a : Int)) (((a + xs.length : Nat) : Int), ys) ∧ Ev (fun k => laws_heldStringS.f k ys (a : Int)) ((a + xs.length : Nat) : Int) := by
  have hc : ∀ i : Nat, ∃ t, i ≤ 9223372036854775000 → Ev (fun k => laws_markText.f k (i : Int)) t := by
    intro i
    by_cases h : i ≤ 9223372036854775000
    · obtain ⟨t, ht⟩ := markText_ev i h; exact ⟨t, fun _ => ht⟩
    · exact ⟨ByteArray.empty, fun h' => absurd h' h⟩
  obtain ⟨mt, hmt⟩ : ∃ mt : Nat → ByteArray, ∀ i : Nat, i ≤ 9223372036854775000 → Ev (fun k => laws_markText.f k (i : Int)) (mt i) := ⟨fun i => Classical.choose (hc i), fun i => Classical.choose_spec (hc i)⟩
  let full := (List.range xs.length).map (fun i => mt (a + i))
  have hfl : full.length = xs.length := by simp [full]
  have hmark : ∀ d i, i + d = xs.length → Ev (fun k => laws_markStringS.l0 k (full.take i ++ xs.drop i) ((a + i : Nat) : Int) (i : Int)) (((a + xs.length : Nat) : Int), full) := by
    intro d
    induction d with
    | zero =>
      intro i hi
      obtain rfl : i = xs.length := by omega
      refine Ev.step (fun k => ?_) (Ev.now _)
      rw [laws_markStringS.l0, if_neg (by simp; omega), List.drop_length, List.append_nil, List.take_of_length_le (by omega)]
    | succ d ih =>
      intro i hi
      have hi' : i < xs.length := by omega
      refine Ev.step (f := fun k => (laws_markText.f k ((a + i : Nat) : Int)).bind fun t => laws_markStringS.l0 k ((full.take i ++ xs.drop i).set i t) ((a + (i + 1) : Nat) : Int) ((i + 1 : Nat) : Int)) (fun k => ?_) (Ev.bind (hmt (a + i) (by omega)) ?_)
      · rw [laws_markStringS.l0, if_pos (by simp; omega), wnS (a + i) (by omega), wnS i (by omega)]
        congr 1
      · have e : (full.take i ++ xs.drop i).set i (mt (a + i)) = full.take (i + 1) ++ xs.drop (i + 1) := by
          rw [List.set_append_right i (mt (a + i)) (by simp; omega)]
          simp only [List.length_take]
          rw [Nat.min_eq_left (by omega), Nat.sub_self, List.drop_eq_getElem_cons hi', List.set_cons_zero, List.take_succ_eq_append_getElem (by omega), List.append_assoc]
          have : full[i]'(by omega) = mt (a + i) := by simp [full]
          rw [this]; rfl
        rw [e]; exact ih (i + 1) (by omega)
  have hheld : ∀ d i, i + d = xs.length → Ev (fun k => laws_heldStringS.l0 k full ((a + i : Nat) : Int) (i : Int)) ((a + xs.length : Nat) : Int) := by
    intro d
    induction d with
    | zero =>
      intro i hi
      obtain rfl : i = xs.length := by omega
      refine Ev.step (fun k => ?_) (Ev.now _)
      rw [laws_heldStringS.l0, if_neg (by omega)]
    | succ d ih =>
      intro i hi
      have hi' : i < full.length := by omega
      have hr : rdOf ByteArray.empty full (i : Int) = mt (a + i) := by
        rw [rdOf, Int.toNat_natCast, List.getD_eq_getElem?_getD, List.getElem?_eq_getElem hi']
        simp [full]
      refine Ev.step (f := fun k => (laws_markText.f k ((a + i : Nat) : Int)).bind fun t => if (rdOf ByteArray.empty full (i : Int)).toList = t.toList then laws_heldStringS.l0 k full ((a + (i + 1) : Nat) : Int) ((i + 1 : Nat) : Int) else some (-1)) (fun k => ?_) (Ev.bind (hmt (a + i) (by omega)) ?_)
      · rw [laws_heldStringS.l0, if_pos (by omega), if_pos (by omega), wnS (a + i) (by omega), wnS i (by omega)]; rfl
      · exact Ev.pos (by rw [hr]) (ih (i + 1) (by omega))
  refine ⟨full, hfl, ?_, hheld xs.length 0 (by omega)⟩
  have h := hmark xs.length 0 (by omega)
  rw [List.take_zero, List.nil_append, List.drop_zero] at h
  exact h

theorem n1 : ((1 : Nat) : Int) = 1 := rfl
theorem tell3 (s : ByteArray) (h : ¬ (s.size : Int) > 65536) (h' : ¬ (decTell s).2 = 0) : (decTell s).2 = 3 := by
  unfold decTell at *
  rw [if_neg h] at h' ⊢
  by_cases v : Lib.validD s.data.toList = true
  · rw [if_pos v] at h'; exact absurd rfl h'
  · rw [if_neg v]
theorem big2 (s : ByteArray) (h : (s.size : Int) > 65536) : decTell s = ([], 2) := by
  unfold decTell
  rw [if_pos h]
theorem rune_eb (a : Int) (h : chOK a = true) : Lib.encodeRuneZ a = eb a := by
  obtain ⟨h0, h1, h2⟩ := (chOK_iff a).1 h
  unfold Lib.encodeRuneZ eb
  by_cases c1 : a < 128
  · rw [if_pos ⟨h0, by omega⟩, if_pos c1]
  · rw [if_neg (by omega), if_neg c1]
    by_cases c2 : a < 2048
    · rw [if_pos ⟨by omega, by omega⟩, if_pos c2]
    · rw [if_neg (by omega), if_neg c2]
      by_cases c3 : a < 65536
      · rw [if_pos (by omega), if_pos c3]
      · rw [if_neg (by omega), if_neg c3, if_pos ⟨by omega, h1⟩]
theorem enc_link : ∀ (l : List Int), (∀ x ∈ l, chOK x = true) → l.flatMap Lib.encodeRune = (ebs l).map fun n => UInt8.ofNat n.toNat
  | [], _ => rfl
  | a :: t, h => by
    have e : ebs (a :: t) = eb a ++ ebs t := by simp [ebs]
    rw [List.flatMap_cons, enc_link t (fun x hx => h x (List.mem_cons_of_mem _ hx)), e, List.map_append, ← rune_eb a (h a (List.mem_cons_self ..))]
    rfl
theorem enc_eq (l : List Int) (h : ∀ x ∈ l, chOK x = true) : Frag.enc l = strOfNums (ebs l) := by
  unfold Frag.enc strOfNums
  rw [enc_link l h]
theorem spec_enc (l : List Int) (h : ∀ x ∈ l, chOK x = true) (hn : l.length ≤ 1000) : Ev (fun k => spec_l01Encode.f k l) (Frag.enc l) := by
  rw [enc_eq l h]
  exact Ev.from l.length fun k hk => l01Encode_eq l (by omega) (fun j hj => by
    rw [List.getD_eq_getElem?_getD, List.getElem?_eq_getElem hj]; exact h _ (List.getElem_mem hj)) k hk
theorem between_from (l : List Int) (hn : l.length ≤ 1000) (d : Nat) : ∀ i, i + d = l.length → Ev (fun k => spec_l09Between.l0 k l 91 91 (i : Int)) ((l.drop i).contains 91) := by
  induction d with
  | zero =>
    intro i hi
    refine Ev.step (fun k => ?_) (Ev.now _)
    rw [spec_l09Between.l0, if_neg (by omega), List.drop_eq_nil_of_le (by omega)]; rfl
  | succ d ih =>
    intro i hi
    have hlt : i < l.length := by omega
    have hd : l.drop i = l.getD i 0 :: l.drop (i + 1) := by
      rw [List.drop_eq_getElem_cons hlt, List.getD_eq_getElem?_getD, List.getElem?_eq_getElem hlt]; rfl
    rw [hd]
    have h2 := ih (i + 1) (by omega)
    by_cases c : l.getD i 0 = 91
    · rw [c]
      refine Ev.step (fun k => ?_) (Ev.now _)
      rw [spec_l09Between.l0, if_pos (by omega), if_pos (by omega), rd_nat, c, if_pos (by omega), if_pos (by omega)]
      simp
    · have e : (l.getD i 0 :: l.drop (i + 1)).contains 91 = (l.drop (i + 1)).contains 91 := by
        rw [List.contains_cons]
        rw [show ((91 : Int) == l.getD i 0) = false from beq_eq_false_iff_ne.2 (fun h => c h.symm), Bool.false_or]
      rw [e]
      refine Ev.step (fun k => ?_) h2
      rw [spec_l09Between.l0, if_pos (by omega), if_pos (by omega), rd_nat, wnS i (by omega)]
      by_cases c2 : l.getD i 0 ≥ 91
      · rw [if_pos c2, if_neg (by omega)]
      · rw [if_neg c2]
theorem between_eq (l : List Int) (hn : l.length ≤ 1000) : Ev (fun k => spec_l09Between.f k l 91 91) (l.contains 91) := by
  have h := between_from l hn l.length 0 (by omega)
  rw [List.drop_zero] at h
  exact h
theorem out_cons (l : List Int) (s i : Nat) (is : List Nat) : Frag.out l s (i :: is) = (if (Frag.chunk l s i).contains 91 = true then [Frag.enc (Frag.chunk l s i)] else []) ++ Frag.out l s is := by
  unfold Frag.out; rw [List.flatMap_cons]
theorem part_eq (l : List Int) (s i : Nat) (hi : i * s ≤ l.length) : (l.take (min (i * s + s) l.length)).drop (i * s) = Frag.chunk l s i := by
  unfold Frag.chunk
  rw [List.drop_take]
  apply List.ext_getElem?
  intro j
  by_cases h1 : j < min (i * s + s) l.length - i * s
  · rw [List.getElem?_take_of_lt h1, List.getElem?_take_of_lt (by omega)]
  · rw [List.getElem?_take_eq_none (by omega)]
    symm
    apply List.getElem?_eq_none
    rw [List.length_take, List.length_drop]; omega
theorem mn_nat (a b : Nat) : mn (a : Int) (b : Int) = ((min a b : Nat) : Int) := by
  unfold mn
  by_cases c : (b : Int) < (a : Int)
  · rw [if_pos c, Nat.min_eq_right (by omega)]
  · rw [if_neg c, Nat.min_eq_left (by omega)]
theorem nch_lt (n s i : Nat) (hs : 1 ≤ s) (hi : i < Frag.nch n s) : i * s < n := by
  unfold Frag.nch at hi
  have h := (Nat.le_div_iff_mul_le (show 0 < s by omega)).1 (Nat.succ_le_of_lt hi)
  rw [Nat.succ_mul] at h
  omega
theorem nch_ge (n s : Nat) (hs : 1 ≤ s) : n ≤ Frag.nch n s * s := by
  unfold Frag.nch
  have h := Nat.lt_div_mul_add (a := n + s - 1) (show 0 < s by omega)
  omega
theorem nch_le (n s : Nat) (hs : 1 ≤ s) : Frag.nch n s ≤ n := by
  by_cases c : Frag.nch n s = 0
  · omega
  · have h := nch_lt n s (Frag.nch n s - 1) hs (by omega)
    have h2 := Nat.le_mul_of_pos_right (Frag.nch n s - 1) (show 0 < s by omega)
    omega
theorem spec_loop2 (l : List Int) (s : Nat) (hs0 : 10 ≤ s) (hs1 : s ≤ 1000) (hn : l.length ≤ 65536) (hc : ∀ x ∈ l, chOK x = true) (d : Nat) :
    ∀ (i : Nat) (acc : List ByteArray), i + d = Frag.nch l.length s → acc.length ≤ i →
    Ev (fun k => spec_Fragments.l0 k (s : Int) l acc ((i * s : Nat) : Int)) (acc ++ Frag.out l s (List.range' i d), 0) := by
  induction d with
  | zero =>
    intro i acc hi hl
    have h := nch_ge l.length s (by omega)
    rw [Nat.add_zero] at hi
    rw [← hi] at h
    generalize i * s = p at h
    refine Ev.step (fun k => ?_) (Ev.now _)
    rw [spec_Fragments.l0, if_neg (by omega)]
    simp [Frag.out]
  | succ d ih =>
    intro i acc hi hl
    have hlt := nch_lt l.length s i (by omega) (by omega)
    have hks : (i + 1) * s = i * s + s := Nat.succ_mul i s
    have hil := nch_le l.length s (by omega)
    have hcl : (Frag.chunk l s i).length ≤ s := by unfold Frag.chunk; rw [List.length_take]; exact Nat.min_le_left _ _
    have hch : ∀ x ∈ Frag.chunk l s i, chOK x = true := fun x hx => hc x (List.mem_of_mem_drop (List.mem_of_mem_take hx))
    have hpart := part_eq l s i (Nat.le_of_lt hlt)
    have hb := between_eq (Frag.chunk l s i) (by omega)
    have he := spec_enc (Frag.chunk l s i) hch (by omega)
    have hn1 := ih (i + 1) acc (by omega) (by omega)
    have hn2 := ih (i + 1) (acc ++ [Frag.enc (Frag.chunk l s i)]) (by omega) (by rw [List.length_append]; exact Nat.succ_le_succ hl)
    rw [hks] at hn1 hn2
    rw [List.range'_succ, out_cons]
    have hw : wrap64 (((i * s : Nat) : Int) + (s : Int)) = ((i * s + s : Nat) : Int) := by
      generalize i * s = p at hlt
      rw [w64 (by omega) (by omega)]; omega
    have e1 : (mn (((i * s + s : Nat) : Int)) (l.length : Int)) = ((min (i * s + s) l.length : Nat) : Int) := mn_nat _ _
    have hm1 : i * s ≤ min (i * s + s) l.length := by
      generalize i * s = p at hlt
      omega
    have hm2 : min (i * s + s) l.length ≤ l.length := Nat.min_le_right _ _
    have st : ∀ r, Ev (fun k => (spec_l09Between.f k (Frag.chunk l s i) 91 91).bind fun t176 => (if t176 = true then ((spec_l01Encode.f k (Frag.chunk l s i)).bind fun t177 => (if acc.length < 8796093022208 then (spec_Fragments.l0 k (s : Int) l (acc ++ [t177]) ((i * s + s : Nat) : Int)) else (none))) else (spec_Fragments.l0 k (s : Int) l acc ((i * s + s : Nat) : Int)))) r → Ev (fun k => spec_Fragments.l0 k (s : Int) l acc ((i * s : Nat) : Int)) r := fun r h => by
      refine Ev.step (fun k => ?_) h
      rw [spec_Fragments.l0, hw, e1]
      generalize min (i * s + s) l.length = q at hm1 hm2 hpart
      rw [if_pos (Int.ofNat_lt.2 hlt), if_pos (Int.natCast_nonneg _), if_pos (Int.ofNat_le.2 hm1), if_pos (Int.ofNat_le.2 hm2), Int.toNat_natCast, Int.toNat_natCast, hpart, Option.bind_some]
    refine st _ (Ev.bind hb ?_)
    by_cases c : (Frag.chunk l s i).contains 91 = true
    · rw [if_pos c, ← List.append_assoc]
      exact Ev.pos c (Ev.bind he (Ev.pos (by omega) hn2))
    · rw [if_neg c, List.nil_append]
      exact Ev.neg c hn1
theorem both (s : ByteArray) (a : Int) : ∃ r, Ev (fun k => spec_Fragments.f k s a) r ∧ impl_Fragments.f s a = some r ∧ r.1.length ≤ 65536 := by
  by_cases hbig : (s.size : Int) > 65536
  · have ht := big2 s hbig
    refine ⟨([], 2), ?_, ?_, by simp⟩
    · unfold spec_Fragments.f
      have h := spec_Decode_eq s
      rw [ht] at h
      exact Ev.bind h (Ev.neg (by decide) (Ev.now _))
    · unfold impl_Fragments.f
      rw [if_pos hbig]
  · by_cases h1 : (decTell s).2 = 0
    · obtain ⟨g1, g2, g3, g4, g5⟩ := decTell_good s h1
      have hl := decTell_length s
      have so : ∀ r, Ev (fun k => if a < 10 then (spec_Fragments.j0 k a (decTell s).1 true) else (spec_Fragments.j0 k a (decTell s).1 (decide (a > 1000)))) r → Ev (fun k => spec_Fragments.f k s a) r := by
        intro r h
        unfold spec_Fragments.f
        exact Ev.bind (spec_Decode_eq s) (Ev.pos h1 h)
      have bad : Ev (fun k => spec_Fragments.j0 k a (decTell s).1 true) ([], 12) := Ev.step (fun k => by rw [spec_Fragments.j0]) (Ev.pos rfl (Ev.now _))
      have io : ∀ r, (if a < 10 ∨ a > 1000 then some (([] : List ByteArray), (12 : Int)) else if impl_Fragments.okL (decTell s).1 = true then some (Frag.out (decTell s).1 a.toNat (List.range (Frag.nch (decTell s).1.length a.toNat)), 0) else none) = some r → impl_Fragments.f s a = some r := by
        intro r h
        unfold impl_Fragments.f
        rw [if_neg hbig, impl_Decode_eq, Option.bind_some, if_pos h1]
        exact h
      by_cases ca : a < 10
      · exact ⟨([], 12), so _ (Ev.pos ca bad), io _ (by rw [if_pos (.inl ca)]), by simp⟩
      · by_cases cb : a > 1000
        · refine ⟨([], 12), so _ (Ev.neg ca ?_), io _ (by rw [if_pos (.inr cb)]), by simp⟩
          rw [decide_eq_true cb]; exact bad
        · obtain ⟨x, rfl⟩ : ∃ n : Nat, a = n := ⟨a.toNat, by omega⟩
          have ok : impl_Fragments.okL (decTell s).1 = true := by
            unfold impl_Fragments.okL
            rw [decide_eq_true hl, Bool.true_and]
            refine List.all_eq_true.2 fun y hy => ?_
            obtain ⟨k0, k1, _⟩ := (chOK_iff y).1 (g4 y hy)
            rw [decide_eq_true k0, decide_eq_true k1]; rfl
          have hlp := spec_loop2 (decTell s).1 x (by omega) (by omega) hl g4 (Frag.nch (decTell s).1.length x) 0 [] (by omega) (Nat.le_refl _)
          rw [Nat.zero_mul, List.nil_append, ← List.range_eq_range'] at hlp
          refine ⟨(Frag.out (decTell s).1 x (List.range (Frag.nch (decTell s).1.length x)), 0), so _ (Ev.neg ca ?_), io _ (by rw [if_neg (by omega), if_pos ok, Int.toNat_natCast]), ?_⟩
          · rw [decide_eq_false cb]
            refine Ev.step (fun k => by rw [spec_Fragments.j0]) ?_
            exact Ev.neg (by simp) hlp
          · have k1 := Frag.out_len (decTell s).1 x (List.range (Frag.nch (decTell s).1.length x))
            have k2 := nch_le (decTell s).1.length x (by omega)
            rw [List.length_range] at k1
            show (Frag.out _ _ _).length ≤ 65536
            omega
    · have h3 := tell3 s hbig h1
      refine ⟨([], 3), ?_, ?_, by simp⟩
      · unfold spec_Fragments.f
        have h := spec_Decode_eq s
        refine Ev.bind h (Ev.neg h1 ?_)
        rw [h3]; exact Ev.now _
      · unfold impl_Fragments.f
        rw [if_neg hbig, impl_Decode_eq, Option.bind_some, if_neg h1]
theorem FnExactFragments (s : ByteArray) (a : Int) (hs : s.size ≤ 140737488351232) (ha : (Lit.int .i64 a).wf = true) : ∃ k, laws_FnExactFragments.f k s a = some true := by
  refine Ev.rounds (g := fun k => laws_FnExactFragments.f k s a) ?_
  unfold laws_FnExactFragments.f
  by_cases h : (s.size : Int) > 1048576
  · exact Ev.pos h (Ev.now _)
  · refine Ev.neg h ?_
    obtain ⟨⟨rs, e⟩, hsp, hi0, hl⟩ := both s a
    have hi : Ev (fun _ => impl_Fragments.f s a) (rs, e) := Ev.ofEq hi0
    simp only at hl
    obtain ⟨ys, hy, hm, hh⟩ := marksSE rs 1 (by omega) (by omega)
    rw [n1] at hm hh
    refine Ev.bind hsp ?_
    refine Ev.bind hi ?_
    refine Ev.bind (eqSE rs (by omega)) ?_
    refine Ev.pos rfl ?_
    refine Ev.step (fun k => by rw [laws_FnExactFragments.j0]) ?_
    refine Ev.neg (by simp) ?_
    refine Ev.bind hm ?_
    refine Ev.bind hh ?_
    refine Ev.neg (by omega) ?_
    refine Ev.pos rfl ?_
    refine Ev.bind hi ?_
    refine Ev.bind (eqSE rs (by omega)) ?_
    refine Ev.pos rfl ?_
    refine Ev.step (fun k => by rw [laws_FnExactFragments.j1]) ?_
    refine Ev.neg (by simp) ?_
    refine Ev.bind hh ?_
    refine Ev.neg (by omega) ?_
    exact Ev.pos rfl (Ev.now _)

end Go.Proofs.YtcokeankiedfcaaDoor.Pure
