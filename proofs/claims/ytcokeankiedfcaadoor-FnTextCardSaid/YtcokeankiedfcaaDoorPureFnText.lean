/- Whatever the code, the drawn text that is well-formed comes back from the program's characters, folding twice is folding once, and the words that Break tells stand where they say with no letter, digit or wide character between them: the law answers true. No condition. -/
import Derived.Test.YtcokeankiedfcaaDoorXFnTextx12
import Derived.Test.YtcokeankiedfcaaDoorKit
import Derived.Lib.ItoaNum
import Derived.Lib.Bytes
import Derived.Test.YtcokeankiedfcaaDoorWfFnText
set_option linter.unusedSimpArgs false
set_option linter.unusedVariables false
namespace Go.Proofs.YtcokeankiedfcaaDoor.Pure
open Go.RowKit Go.Proofs.YtcokeankiedfcaaDoor.XFnText Go.Proofs.YtcokeankiedfcaaDoorW.PrintWords Go.Proofs.YtcokeankiedfcaaDoorW.PrintLast Go.Proofs.YtcokeankiedfcaaDoorW.PrintMore Go.Proofs.YtcokeankiedfcaaDoor.Kit

theorem Ev.steps {α : Type} {g f : Nat → Option α} {r : α} (c : Nat) (h : ∀ k, g (k + c) = f k) (k : Ev f r) : Ev g r := by
  obtain ⟨K, hK⟩ := k
  refine ⟨K + c, fun n hn => ?_⟩
  have := h (n - c)
  rw [Nat.sub_add_cancel (by omega)] at this
  rw [this]; exact hK _ (by omega)

theorem Ev.pos {α : Type} {c : Prop} [Decidable c] {f g : Nat → Option α} {r : α} (h : c) (k : Ev f r) : Ev (fun n => if c then f n else g n) r := Ev.congr (fun n => if_pos h) k
theorem Ev.neg {α : Type} {c : Prop} [Decidable c] {f g : Nat → Option α} {r : α} (h : ¬ c) (k : Ev g r) : Ev (fun n => if c then f n else g n) r := Ev.congr (fun n => if_neg h) k
theorem Ev.ofEq {α : Type} {x : Option α} {r : α} (h : x = some r) : Ev (fun _ => x) r := ⟨0, fun _ _ => h⟩
theorem Ev.from {α : Type} {g : Nat → Option α} {r : α} (K : Nat) (h : ∀ k, K < k → g k = some r) : Ev g r := ⟨K + 1, fun k hk => h k (by omega)⟩

def eb (a : Int) : List Int := if a < 128 then [a] else if a < 2048 then [192 + a / 64, 128 + a % 64] else if a < 65536 then [224 + a / 4096, 128 + a / 64 % 64, 128 + a % 64] else [240 + a / 262144, 128 + a / 4096 % 64, 128 + a / 64 % 64, 128 + a % 64]
def chOK (a : Int) : Bool := decide (0 ≤ a ∧ a ≤ 1114111 ∧ (a < 55296 ∨ 57343 < a))

theorem chOK_iff (a : Int) : chOK a = true ↔ 0 ≤ a ∧ a ≤ 1114111 ∧ (a < 55296 ∨ 57343 < a) := by simp [chOK]

theorem eb_length (a : Int) : 1 ≤ (eb a).length ∧ (eb a).length ≤ 4 := by
  unfold eb; (repeat' split) <;> simp

theorem charOK_eq (a : Int) : spec_l01CharOK.f a = some (chOK a) := by
  unfold spec_l01CharOK.f chOK
  (repeat' split) <;> (congr 1; rw [Bool.eq_iff_iff]; simp; try omega)

theorem bytes_eq (a : Int) (h : chOK a = true) : spec_l01Bytes.f a = some (eb a) := by
  obtain ⟨h0, h1, _⟩ := (chOK_iff a).1 h
  unfold spec_l01Bytes.f eb
  simp only [Int.tdiv_eq_ediv_of_nonneg h0, Int.tmod_eq_emod_of_nonneg h0]
  have d1 : wrap64 (a / 64) = a / 64 := w64 (by omega) (by omega)
  have d2 : wrap64 (a / 4096) = a / 4096 := w64 (by omega) (by omega)
  have d3 : wrap64 (a / 262144) = a / 262144 := w64 (by omega) (by omega)
  rw [d1, d2, d3]
  have m1 : Int.tmod (a / 64) 64 = a / 64 % 64 := Int.tmod_eq_emod_of_nonneg (by omega)
  have m2 : Int.tmod (a / 4096) 64 = a / 4096 % 64 := Int.tmod_eq_emod_of_nonneg (by omega)
  rw [m1, m2]
  have b0 : wrap64 (128 + a % 64) % 256 = 128 + a % 64 := by rw [w64 (by omega) (by omega)]; omega
  have b1 : wrap64 (128 + a / 64 % 64) % 256 = 128 + a / 64 % 64 := by rw [w64 (by omega) (by omega)]; omega
  have b2 : wrap64 (128 + a / 4096 % 64) % 256 = 128 + a / 4096 % 64 := by rw [w64 (by omega) (by omega)]; omega
  rw [b0, b1, b2]
  by_cases c1 : a < 128
  · rw [if_pos c1, if_pos c1, Int.emod_eq_of_lt h0 (by omega)]
  · rw [if_neg c1, if_neg c1]
    by_cases c2 : a < 2048
    · rw [if_pos c2, if_pos c2, w64 (x := 192 + a / 64) (by omega) (by omega), Int.emod_eq_of_lt (a := 192 + a / 64) (by omega) (by omega)]
    · rw [if_neg c2, if_neg c2]
      by_cases c3 : a < 65536
      · rw [if_pos c3, if_pos c3, w64 (x := 224 + a / 4096) (by omega) (by omega), Int.emod_eq_of_lt (a := 224 + a / 4096) (by omega) (by omega)]
      · rw [if_neg c3, if_neg c3, w64 (x := 240 + a / 262144) (by omega) (by omega), Int.emod_eq_of_lt (a := 240 + a / 262144) (by omega) (by omega)]


theorem isChar_eq (a : Int) : impl_isChar.f a = some (chOK a) := by
  unfold impl_isChar.f chOK
  (repeat' split) <;> (congr 1; rw [Bool.eq_iff_iff]; simp; try omega)

theorem appendRune_eq (k : Nat) (pre : List Int) (a : Int) (h : chOK a = true) (hl : pre.length < 140737488355000) : utf8_AppendRune.f (k + 1) pre a = some (pre ++ eb a) := by
  obtain ⟨h0, h1, h2⟩ := (chOK_iff a).1 h
  have e : a % 4294967296 = a := Int.emod_eq_of_lt h0 (by omega)
  unfold utf8_AppendRune.f eb
  rw [e]
  by_cases c1 : a < 128
  · rw [if_pos (by omega), if_pos (by omega), if_pos c1, Int.emod_eq_of_lt h0 (by omega)]
  · rw [if_neg (by omega), if_neg c1]
    unfold utf8_appendRuneNonASCII.f
    rw [e]
    by_cases c2 : a < 2048
    · have o : Go.bits .or .u8 192 (a / 64 % 256) = 192 + a / 64 := by
        rw [Int.emod_eq_of_lt (a := a / 64) (by omega) (by omega)]; exact u8_or192 _ (by omega) (by omega)
      rw [if_pos (by omega), if_pos c2, o]
      simp only [Option.bind_some]
      rw [if_pos (by simp; omega)]
      rfl
    · rw [if_neg (by omega), if_neg c2]
      by_cases c3 : a < 65536
      · have o : Go.bits .or .u8 224 (a / 4096 % 256) = 224 + a / 4096 := by
          rw [Int.emod_eq_of_lt (a := a / 4096) (by omega) (by omega)]; exact u8_or224 _ (by omega) (by omega)
        have go : ∀ b : Bool, b = true → (utf8_appendRuneNonASCII.j0 (k + 1) pre a a b).bind (fun t164 => some t164) = some (pre ++ [224 + a / 4096, 128 + a / 64 % 64, 128 + a % 64]) := by
          intro b hb
          rw [utf8_appendRuneNonASCII.j0, if_pos hb, o]
          simp only [Option.bind_some]
          rw [if_pos (by simp; omega)]
          rfl
        rw [if_pos c3]
        by_cases c4 : a < 55296
        · rw [if_pos c4]; exact go _ (decide_eq_true c4)
        · rw [if_neg c4, if_pos (by omega)]; exact go _ (decide_eq_true (by omega))
      · have o : Go.bits .or .u8 240 (a / 262144 % 256) = 240 + a / 262144 := by
          rw [Int.emod_eq_of_lt (a := a / 262144) (by omega) (by omega)]; exact u8_or240 _ (by omega) (by omega)
        rw [if_neg c3, if_neg (by omega), if_pos (by omega), utf8_appendRuneNonASCII.j0, if_neg (by simp; omega), if_pos (by omega), if_pos (by omega), o]
        simp only [Option.bind_some]
        rw [if_pos (by simp; omega)]
        rfl

theorem wrap32_ch (a : Int) (h : chOK a = true) : wrap32 a = a := by
  obtain ⟨h0, h1, h2⟩ := (chOK_iff a).1 h
  unfold wrap32; omega

/-- The bytes of a list of characters, one behind the other. -/
def ebs (l : List Int) : List Int := l.flatMap eb

theorem ebs_snoc (l : List Int) (a : Int) : ebs (l ++ [a]) = ebs l ++ eb a := by simp [ebs]
theorem ebs_take (l : List Int) (i : Nat) (h : i < l.length) : ebs (l.take (i + 1)) = ebs (l.take i) ++ eb (l.getD i 0) := by
  rw [List.take_succ_eq_append_getElem h, ebs_snoc, List.getD_eq_getElem?_getD, List.getElem?_eq_getElem h]; rfl
theorem ebs_length (l : List Int) : l.length ≤ (ebs l).length ∧ (ebs l).length ≤ 4 * l.length := by
  induction l with
  | nil => simp [ebs]
  | cons a l ih =>
    have := eb_length a
    have e : ebs (a :: l) = eb a ++ ebs l := by simp [ebs]
    rw [e]; simp only [List.length_append, List.length_cons]; omega
theorem size_ofNums (l : List Int) : (strOfNums l).size = l.length := by
  simp [strOfNums, ByteArray.size]

theorem l01Encode_from (xs : List Int) (hn : xs.length ≤ 34359738368) (hb : ∀ i, i < xs.length → chOK (xs.getD i 0) = true) (d : Nat) : ∀ (k i : Nat), i + d = xs.length → d < k →
    spec_l01Encode.l0 k xs (ebs (xs.take i)) (i : Int) = some (strOfNums (ebs xs)) := by
  induction d with
  | zero =>
    intro k i hi hk
    obtain ⟨k, rfl⟩ : ∃ m, k = m + 1 := ⟨k - 1, by omega⟩
    rw [spec_l01Encode.l0, if_neg (by omega), List.take_of_length_le (by omega)]
  | succ d ih =>
    intro k i hi hk
    obtain ⟨k, rfl⟩ : ∃ m, k = m + 1 := ⟨k - 1, by omega⟩
    have hl := ebs_length (xs.take i)
    have hl2 : (xs.take i).length ≤ i := List.length_take_le _ _
    have he := eb_length (xs.getD i 0)
    rw [spec_l01Encode.l0, if_pos (by omega), if_pos (by omega), rd_nat, bytes_eq _ (hb i (by omega))]
    simp only [Option.bind_some]
    have e : wrap64 ((i : Int) + 1) = ((i + 1 : Nat) : Int) := by rw [w64 (by omega) (by omega)]; omega
    rw [if_pos (by omega), ← ebs_take xs i (by omega), e]
    exact ih k (i + 1) (by omega) (by omega)

theorem l01Encode_eq (xs : List Int) (hn : xs.length ≤ 34359738368) (hb : ∀ i, i < xs.length → chOK (xs.getD i 0) = true) (k : Nat) (hk : xs.length < k) :
    spec_l01Encode.f k xs = some (strOfNums (ebs xs)) := l01Encode_from xs hn hb xs.length k 0 (by omega) hk

/-- What both tell of a list of characters: the text, or the code. -/
def encTell (xs : List Int) : ByteArray × Int :=
  if (xs.length : Int) > 65536 then (⟨#[]⟩, 2) else if xs.all chOK then (if ((ebs xs).length : Int) > 65536 then (⟨#[]⟩, 2) else (strOfNums (ebs xs), 0)) else (⟨#[]⟩, 1)

theorem allOK (xs : List Int) : xs.all chOK = true ↔ ∀ i, i < xs.length → chOK (xs.getD i 0) = true := by
  rw [List.all_eq_true]
  constructor
  · intro h i hi
    apply h
    rw [List.getD_eq_getElem?_getD, List.getElem?_eq_getElem hi]; exact List.getElem_mem hi
  · intro h x hx
    obtain ⟨i, hi, rfl⟩ := List.getElem_of_mem hx
    have := h i hi
    rwa [List.getD_eq_getElem?_getD, List.getElem?_eq_getElem hi] at this

theorem notAll (xs : List Int) (i : Nat) (hi : i < xs.length) (h : chOK (xs.getD i 0) = false) : xs.all chOK = false := by
  by_cases c : xs.all chOK = true
  · have := (allOK xs).1 c i hi
    rw [h] at this; cases this
  · simpa using c

theorem impl_Encode_from (xs : List Int) (hn : xs.length ≤ 65536) (d : Nat) : ∀ (k i : Nat), i + d = xs.length → d + 2 < k → (∀ j, j < i → chOK (xs.getD j 0) = true) →
    impl_Encode.l0 k (ebs (xs.take i)) xs (xs.length : Int) (i : Int) = some (encTell xs) := by
  induction d with
  | zero =>
    intro k i hi hk hb
    obtain ⟨k, rfl⟩ : ∃ m, k = m + 1 := ⟨k - 1, by omega⟩
    have hb' : ∀ j, j < xs.length → chOK (xs.getD j 0) = true := fun j hj => hb j (by omega)
    rw [impl_Encode.l0, if_neg (by omega), List.take_of_length_le (by omega)]
    unfold encTell
    rw [if_neg (show ¬ ((xs.length : Int) > 65536) by omega), if_pos ((allOK xs).2 hb')]
    split <;> rfl
  | succ d ih =>
    intro k i hi hk hb
    obtain ⟨k, rfl⟩ : ∃ m, k = m + 2 := ⟨k - 2, by omega⟩
    have hl := ebs_length (xs.take i)
    have hl2 : (xs.take i).length ≤ i := List.length_take_le _ _
    have e : wrap64 ((i : Int) + 1) = ((i + 1 : Nat) : Int) := by rw [w64 (by omega) (by omega)]; omega
    rw [impl_Encode.l0, if_pos (by omega), if_pos (by omega), if_pos (by omega), rd_nat, isChar_eq]
    simp only [Option.bind_some]
    by_cases c : chOK (xs.getD i 0) = true
    · rw [if_pos c, wrap32_ch _ c, appendRune_eq k _ _ c (by omega), e]
      simp only [Option.bind_some]
      rw [← ebs_take xs i (by omega)]
      refine ih (k + 1) (i + 1) (by omega) (by omega) ?_
      intro j hj
      by_cases cj : j = i
      · rw [cj]; exact c
      · exact hb j (by omega)
    · have c' : chOK (xs.getD i 0) = false := by simpa using c
      rw [if_neg c]
      unfold encTell
      rw [if_neg (show ¬ ((xs.length : Int) > 65536) by omega), notAll xs i (by omega) c']
      rfl

theorem impl_Encode_eq (xs : List Int) (k : Nat) (hk : xs.length + 2 < k) : impl_Encode.f k xs = some (encTell xs) := by
  unfold impl_Encode.f
  by_cases h : (xs.length : Int) > 65536
  · rw [if_pos h]; simp [encTell, h]
  · rw [if_neg h]; exact impl_Encode_from xs (by omega) xs.length k 0 (by omega) hk (fun j hj => by omega)

/-! ### Decoding -/
theorem bt_get (s : ByteArray) (i : Nat) : bt s (i : Int) = ((s.get! i).toNat : Int) := by
  have h := Lib.getD_get!' s i
  unfold bt
  rw [Int.toNat_natCast]
  by_cases c : i < s.size
  · rw [dif_pos c, ← h, List.getD_eq_getElem?_getD, List.getElem?_eq_getElem (by rw [data_length]; exact c)]; rfl
  · rw [dif_neg c, ← h, List.getD_eq_getElem?_getD, List.getElem?_eq_none (by rw [data_length]; omega)]; rfl

/-- What the reference's look at a place tells, out of the decoder's step. -/
def stepR (d : Nat × Nat) : Int × Int := if d.1 = 65533 ∧ d.2 = 1 then (0, 0) else ((d.1 : Int), (d.2 : Int))
def finR (v n : Int) : Int × Int := if chOK v = true ∧ ((eb v).length : Int) = n then (v, n) else (0, 0)

theorem l0_end (s : ByteArray) (pos n v : Int) (k : Nat) : spec_l01At.l0 (k + 1) s pos n v n = some (finR v n) := by
  rw [spec_l01At.l0, if_neg (by omega), charOK_eq, Option.bind_some, finR]
  by_cases c : chOK v = true
  · rw [if_pos c, bytes_eq v c, Option.bind_some]
    by_cases c2 : ((eb v).length : Int) = n
    · rw [if_pos c2, if_pos ⟨c, c2⟩]
    · rw [if_neg c2, if_neg (fun h => c2 h.2)]
  · rw [if_neg c, if_neg (fun h => c h.1)]

theorem l0_step (s : ByteArray) (pos i n : Nat) (v : Int) (k : Nat) (hs : s.size ≤ 1048576) (hi : i < n) (hin : pos + i < s.size) (h0 : 0 ≤ v) (h1 : v ≤ 100000000) (b : Nat) (hb : (s.get! (pos + i)).toNat = b) :
    spec_l01At.l0 (k + 1) s (pos : Int) (n : Int) v (i : Int) = if b / 64 = 2 then spec_l01At.l0 k s (pos : Int) (n : Int) (v * 64 + ((b % 64 : Nat) : Int)) ((i + 1 : Nat) : Int) else some (0, 0) := by
  have hlt : b < 256 := by rw [← hb]; exact UInt8.toNat_lt _
  have e1 : Aside0 (wrap64 ((pos : Int) + (i : Int)) = ((pos + i : Nat) : Int)) := ⟨by rw [w64 (by omega) (by omega)]; omega⟩
  have e2 : Aside0 (wrap64 ((i : Int) + 1) = ((i + 1 : Nat) : Int)) := ⟨by rw [w64 (by omega) (by omega)]; omega⟩
  have e3 : Aside0 (wrap64 (b : Int) = (b : Int)) := ⟨w64 (by omega) (by omega)⟩
  rw [spec_l01At.l0, if_pos (by omega), e1.out, if_pos (by omega), if_pos (by omega), bt_get, hb, e3.out, e2.out]
  by_cases c1 : (b : Int) < 128
  · rw [if_pos c1, if_neg (by omega)]
  · rw [if_neg c1]
    by_cases c2 : (b : Int) > 191
    · rw [if_pos c2, if_neg (by omega)]
    · have e4 : wrap64 (wrap64 (wrap64 (v * 64) + (b : Int)) - 128) = v * 64 + ((b % 64 : Nat) : Int) := by
        rw [w64 (x := v * 64) (by omega) (by omega), w64 (x := v * 64 + (b : Int)) (by omega) (by omega), w64 (by omega) (by omega)]; omega
      rw [if_neg c2, if_pos (by omega), e4]

theorem at2 (s : ByteArray) (pos : Nat) (v : Int) (hs : s.size ≤ 1048576) (hp : pos < s.size) (h0 : 0 ≤ v) (h1 : v ≤ 1000) (b1 : Nat) (hb1 : (s.get! (pos + 1)).toNat = b1) :
    Ev (fun k => spec_l01At.j0 k s (pos : Int) 2 v) (if 1 < s.size - pos ∧ b1 / 64 = 2 then finR (v * 64 + ((b1 % 64 : Nat) : Int)) 2 else (0, 0)) := by
  have e1 : Aside0 (wrap64 ((pos : Int) + 2) = ((pos + 2 : Nat) : Int)) := ⟨by rw [w64 (by omega) (by omega)]; omega⟩
  by_cases c : 1 < s.size - pos
  · have hst := fun k => l0_step s pos 1 2 v k hs (by omega) (by omega) h0 (by omega) b1 hb1
    by_cases d : b1 / 64 = 2
    · rw [if_pos ⟨c, d⟩]
      refine Ev.steps 3 (fun k => ?_) (Ev.now _)
      have h := hst (k + 1)
      rw [if_pos d] at h
      rw [spec_l01At.j0, e1.out, if_neg (by omega)]
      exact h.trans (l0_end s _ _ _ _)
    · rw [if_neg (fun h => d h.2)]
      refine Ev.steps 2 (fun k => ?_) (Ev.now _)
      have h := hst k
      rw [if_neg d] at h
      rw [spec_l01At.j0, e1.out, if_neg (by omega)]
      exact h
  · rw [if_neg (fun h => c h.1)]
    refine Ev.step (fun k => ?_) (Ev.now _)
    rw [spec_l01At.j0, e1.out, if_pos (by omega)]

theorem at3 (s : ByteArray) (pos : Nat) (v : Int) (hs : s.size ≤ 1048576) (hp : pos < s.size) (h0 : 0 ≤ v) (h1 : v ≤ 1000) (b1 b2 : Nat) (hb1 : (s.get! (pos + 1)).toNat = b1) (hb2 : (s.get! (pos + 2)).toNat = b2) :
    Ev (fun k => spec_l01At.j0 k s (pos : Int) 3 v) (if 2 < s.size - pos ∧ b1 / 64 = 2 ∧ b2 / 64 = 2 then finR ((v * 64 + ((b1 % 64 : Nat) : Int)) * 64 + ((b2 % 64 : Nat) : Int)) 3 else (0, 0)) := by
  have e1 : Aside0 (wrap64 ((pos : Int) + 3) = ((pos + 3 : Nat) : Int)) := ⟨by rw [w64 (by omega) (by omega)]; omega⟩
  by_cases c : 2 < s.size - pos
  · have hst := fun k => l0_step s pos 1 3 v k hs (by omega) (by omega) h0 (by omega) b1 hb1
    by_cases d : b1 / 64 = 2
    · have hst2 := fun k => l0_step s pos 2 3 (v * 64 + ((b1 % 64 : Nat) : Int)) k hs (by omega) (by omega) (by omega) (by omega) b2 hb2
      by_cases d2 : b2 / 64 = 2
      · rw [if_pos ⟨c, d, d2⟩]
        refine Ev.steps 4 (fun k => ?_) (Ev.now _)
        have h := hst (k + 2)
        rw [if_pos d] at h
        have h2 := hst2 (k + 1)
        rw [if_pos d2] at h2
        rw [spec_l01At.j0, e1.out, if_neg (by omega)]
        exact h.trans (h2.trans (l0_end s _ _ _ _))
      · rw [if_neg (fun h => d2 h.2.2)]
        refine Ev.steps 3 (fun k => ?_) (Ev.now _)
        have h := hst (k + 1)
        rw [if_pos d] at h
        have h2 := hst2 k
        rw [if_neg d2] at h2
        rw [spec_l01At.j0, e1.out, if_neg (by omega)]
        exact h.trans h2
    · rw [if_neg (fun h => d h.2.1)]
      refine Ev.steps 2 (fun k => ?_) (Ev.now _)
      have h := hst k
      rw [if_neg d] at h
      rw [spec_l01At.j0, e1.out, if_neg (by omega)]
      exact h
  · rw [if_neg (fun h => c h.1)]
    refine Ev.step (fun k => ?_) (Ev.now _)
    rw [spec_l01At.j0, e1.out, if_pos (by omega)]

theorem at4 (s : ByteArray) (pos : Nat) (v : Int) (hs : s.size ≤ 1048576) (hp : pos < s.size) (h0 : 0 ≤ v) (h1 : v ≤ 1000) (b1 b2 b3 : Nat) (hb1 : (s.get! (pos + 1)).toNat = b1) (hb2 : (s.get! (pos + 2)).toNat = b2) (hb3 : (s.get! (pos + 3)).toNat = b3) :
    Ev (fun k => spec_l01At.j0 k s (pos : Int) 4 v) (if 3 < s.size - pos ∧ b1 / 64 = 2 ∧ b2 / 64 = 2 ∧ b3 / 64 = 2 then finR (((v * 64 + ((b1 % 64 : Nat) : Int)) * 64 + ((b2 % 64 : Nat) : Int)) * 64 + ((b3 % 64 : Nat) : Int)) 4 else (0, 0)) := by
  have e1 : Aside0 (wrap64 ((pos : Int) + 4) = ((pos + 4 : Nat) : Int)) := ⟨by rw [w64 (by omega) (by omega)]; omega⟩
  by_cases c : 3 < s.size - pos
  · have hst := fun k => l0_step s pos 1 4 v k hs (by omega) (by omega) h0 (by omega) b1 hb1
    by_cases d : b1 / 64 = 2
    · have hst2 := fun k => l0_step s pos 2 4 (v * 64 + ((b1 % 64 : Nat) : Int)) k hs (by omega) (by omega) (by omega) (by omega) b2 hb2
      by_cases d2 : b2 / 64 = 2
      · have hst3 := fun k => l0_step s pos 3 4 ((v * 64 + ((b1 % 64 : Nat) : Int)) * 64 + ((b2 % 64 : Nat) : Int)) k hs (by omega) (by omega) (by omega) (by omega) b3 hb3
        by_cases d3 : b3 / 64 = 2
        · rw [if_pos ⟨c, d, d2, d3⟩]
          refine Ev.steps 5 (fun k => ?_) (Ev.now _)
          have h := hst (k + 3)
          rw [if_pos d] at h
          have h2 := hst2 (k + 2)
          rw [if_pos d2] at h2
          have h3 := hst3 (k + 1)
          rw [if_pos d3] at h3
          rw [spec_l01At.j0, e1.out, if_neg (by omega)]
          exact h.trans (h2.trans (h3.trans (l0_end s _ _ _ _)))
        · rw [if_neg (fun h => d3 h.2.2.2)]
          refine Ev.steps 4 (fun k => ?_) (Ev.now _)
          have h := hst (k + 2)
          rw [if_pos d] at h
          have h2 := hst2 (k + 1)
          rw [if_pos d2] at h2
          have h3 := hst3 k
          rw [if_neg d3] at h3
          rw [spec_l01At.j0, e1.out, if_neg (by omega)]
          exact h.trans (h2.trans h3)
      · rw [if_neg (fun h => d2 h.2.2.1)]
        refine Ev.steps 3 (fun k => ?_) (Ev.now _)
        have h := hst (k + 1)
        rw [if_pos d] at h
        have h2 := hst2 k
        rw [if_neg d2] at h2
        rw [spec_l01At.j0, e1.out, if_neg (by omega)]
        exact h.trans h2
    · rw [if_neg (fun h => d h.2.1)]
      refine Ev.steps 2 (fun k => ?_) (Ev.now _)
      have h := hst k
      rw [if_neg d] at h
      rw [spec_l01At.j0, e1.out, if_neg (by omega)]
      exact h
  · rw [if_neg (fun h => c h.1)]
    refine Ev.step (fun k => ?_) (Ev.now _)
    rw [spec_l01At.j0, e1.out, if_pos (by omega)]

theorem eb_len (v : Int) : ((eb v).length : Int) = if v < 128 then 1 else if v < 2048 then 2 else if v < 65536 then 3 else 4 := by
  unfold eb
  repeat' split
  all_goals simp
theorem finR_ok (v n : Int) (h : chOK v = true) (hl : ((eb v).length : Int) = n) : finR v n = (v, n) := by unfold finR; rw [if_pos ⟨h, hl⟩]
theorem finR_len (v n : Int) (hl : ((eb v).length : Int) ≠ n) : finR v n = (0, 0) := by unfold finR; rw [if_neg (fun h => hl h.2)]
theorem finR_ch (v n : Int) (h : ¬ (chOK v = true)) : finR v n = (0, 0) := by unfold finR; rw [if_neg (fun h' => h h'.1)]
theorem stepR_bad : stepR (65533, 1) = (0, 0) := rfl
theorem stepR_wide (v n : Nat) (h : n ≠ 1) : stepR (v, n) = ((v : Int), (n : Int)) := by unfold stepR; rw [if_neg (fun h' => h h'.2)]

theorem dec1 (m b0 b1 b2 b3 : Nat) (h : b0 < 128) : stepR (Lib.decodeN m b0 b1 b2 b3) = ((b0 : Int), 1) := by
  unfold Lib.decodeN
  rw [if_pos h, stepR, if_neg (by simp only; omega)]; rfl
theorem dec0 (m b0 b1 b2 b3 : Nat) (h : 128 ≤ b0) (h' : b0 < 192) : stepR (Lib.decodeN m b0 b1 b2 b3) = (0, 0) := by
  unfold Lib.decodeN
  rw [if_neg (by omega), if_neg (by omega), if_neg (by omega), if_neg (by omega)]; rfl
theorem dec2 (m b0 b1 b2 b3 : Nat) (h : 192 ≤ b0) (h' : b0 < 224) : stepR (Lib.decodeN m b0 b1 b2 b3) = if 1 < m ∧ b1 / 64 = 2 then finR (((b0 : Int) - 192) * 64 + ((b1 % 64 : Nat) : Int)) 2 else (0, 0) := by
  unfold Lib.decodeN
  rw [if_neg (by omega)]
  by_cases c : 1 < m ∧ b1 / 64 = 2
  · rw [if_pos ⟨by omega, c⟩, if_pos c]
    have e : ((b0 : Int) - 192) * 64 + ((b1 % 64 : Nat) : Int) = ((b0 % 32 * 64 + b1 % 64 : Nat) : Int) := by omega
    rw [e]
    have hv : b0 % 32 * 64 + b1 % 64 < 2048 := by omega
    generalize b0 % 32 * 64 + b1 % 64 = v at *
    by_cases d : v ≥ 128
    · rw [if_pos d, stepR_wide _ _ (by decide), finR_ok _ _ ((chOK_iff _).2 ⟨by omega, by omega, by omega⟩) (by rw [eb_len, if_neg (by omega), if_pos (by omega)])]; rfl
    · rw [if_neg d, stepR_bad, finR_len _ _ (by rw [eb_len, if_pos (by omega)]; decide)]
  · rw [if_neg (fun h => c h.2), if_neg (by omega), if_neg (by omega), if_neg c, stepR_bad]
theorem dec3 (m b0 b1 b2 b3 : Nat) (h : 224 ≤ b0) (h' : b0 < 240) : stepR (Lib.decodeN m b0 b1 b2 b3) = if 2 < m ∧ b1 / 64 = 2 ∧ b2 / 64 = 2 then finR ((((b0 : Int) - 224) * 64 + ((b1 % 64 : Nat) : Int)) * 64 + ((b2 % 64 : Nat) : Int)) 3 else (0, 0) := by
  unfold Lib.decodeN
  rw [if_neg (by omega), if_neg (by omega)]
  by_cases c : 2 < m ∧ b1 / 64 = 2 ∧ b2 / 64 = 2
  · rw [if_pos ⟨by omega, ⟨by omega, c.2.1⟩, c.1, c.2.2⟩, if_pos c]
    have e : (((b0 : Int) - 224) * 64 + ((b1 % 64 : Nat) : Int)) * 64 + ((b2 % 64 : Nat) : Int) = ((b0 % 16 * 4096 + b1 % 64 * 64 + b2 % 64 : Nat) : Int) := by omega
    rw [e]
    have hv : b0 % 16 * 4096 + b1 % 64 * 64 + b2 % 64 < 65536 := by omega
    generalize b0 % 16 * 4096 + b1 % 64 * 64 + b2 % 64 = v at *
    by_cases d : v ≥ 2048
    · by_cases d2 : v < 55296 ∨ 57344 ≤ v ∧ v ≤ 1114111
      · rw [if_pos ⟨d, d2⟩, stepR_wide _ _ (by decide), finR_ok _ _ ((chOK_iff _).2 ⟨by omega, by omega, by omega⟩) (by rw [eb_len, if_neg (by omega), if_neg (by omega), if_pos (by omega)])]; rfl
      · rw [if_neg (fun h => d2 h.2), stepR_bad, finR_ch _ _ (fun h => by have := (chOK_iff _).1 h; omega)]
    · rw [if_neg (fun h => d h.1), stepR_bad, finR_len _ _ (by rw [eb_len]; split <;> (try split) <;> omega)]
  · rw [if_neg (fun h => c ⟨h.2.2.1, h.2.1.2, h.2.2.2⟩), if_neg (by omega), if_neg c, stepR_bad]
theorem dec4 (m b0 b1 b2 b3 : Nat) (h : 240 ≤ b0) (h' : b0 < 256) : stepR (Lib.decodeN m b0 b1 b2 b3) = if 3 < m ∧ b1 / 64 = 2 ∧ b2 / 64 = 2 ∧ b3 / 64 = 2 then finR (((((b0 : Int) - 240) * 64 + ((b1 % 64 : Nat) : Int)) * 64 + ((b2 % 64 : Nat) : Int)) * 64 + ((b3 % 64 : Nat) : Int)) 4 else (0, 0) := by
  unfold Lib.decodeN
  rw [if_neg (by omega), if_neg (by omega), if_neg (by omega)]
  by_cases c : 3 < m ∧ b1 / 64 = 2 ∧ b2 / 64 = 2 ∧ b3 / 64 = 2
  · rw [if_pos c]
    by_cases g : b0 < 248
    · rw [if_pos ⟨by omega, ⟨by omega, c.2.1⟩, ⟨by omega, c.2.2.1⟩, c.1, c.2.2.2⟩]
      have e : ((((b0 : Int) - 240) * 64 + ((b1 % 64 : Nat) : Int)) * 64 + ((b2 % 64 : Nat) : Int)) * 64 + ((b3 % 64 : Nat) : Int) = ((b0 % 8 * 262144 + b1 % 64 * 4096 + b2 % 64 * 64 + b3 % 64 : Nat) : Int) := by omega
      rw [e]
      generalize b0 % 8 * 262144 + b1 % 64 * 4096 + b2 % 64 * 64 + b3 % 64 = v at *
      by_cases d : v ≥ 65536
      · by_cases d2 : v < 55296 ∨ 57344 ≤ v ∧ v ≤ 1114111
        · rw [if_pos ⟨d, d2⟩, stepR_wide _ _ (by decide), finR_ok _ _ ((chOK_iff _).2 ⟨by omega, by omega, by omega⟩) (by rw [eb_len, if_neg (by omega), if_neg (by omega), if_neg (by omega)])]; rfl
        · rw [if_neg (fun h => d2 h.2), stepR_bad, finR_ch _ _ (fun h => by have := (chOK_iff _).1 h; omega)]
      · rw [if_neg (fun h => d h.1), stepR_bad, finR_len _ _ (by rw [eb_len]; split <;> (try split) <;> (try split) <;> omega)]
    · rw [if_neg (by omega), stepR_bad, finR_ch _ _ (fun h => by have := (chOK_iff _).1 h; omega)]
  · rw [if_neg (fun h => c ⟨h.2.2.2.1, h.2.1.2, h.2.2.1.2, h.2.2.2.2⟩), if_neg c, stepR_bad]

theorem at_step (s : ByteArray) (pos : Nat) (hs : s.size ≤ 1048576) (hp : pos < s.size) : Ev (fun k => spec_l01At.f k s (pos : Int)) (stepR (Utf8.decode s pos)) := by
  rw [Lib.decode_at]
  generalize hm : s.size - pos = m
  obtain ⟨b0, hb0⟩ : ∃ b, (s.get! pos).toNat = b := ⟨_, rfl⟩
  obtain ⟨b1, hb1⟩ : ∃ b, (s.get! (pos + 1)).toNat = b := ⟨_, rfl⟩
  obtain ⟨b2, hb2⟩ : ∃ b, (s.get! (pos + 2)).toNat = b := ⟨_, rfl⟩
  obtain ⟨b3, hb3⟩ : ∃ b, (s.get! (pos + 3)).toNat = b := ⟨_, rfl⟩
  have hlt : b0 < 256 := by rw [← hb0]; exact UInt8.toNat_lt _
  rw [hb0, hb1, hb2, hb3]
  have e3 : Aside0 (wrap64 (b0 : Int) = (b0 : Int)) := ⟨w64 (by omega) (by omega)⟩
  unfold spec_l01At.f
  rw [bt_get, hb0, e3.out]
  refine Ev.pos (by omega) (Ev.pos (by omega) ?_)
  by_cases c1 : b0 < 128
  · rw [dec1 m b0 b1 b2 b3 c1]
    exact Ev.pos (by omega) (Ev.now _)
  · refine Ev.neg (by omega) ?_
    by_cases c2 : b0 ≥ 240
    · have e4 : wrap64 ((b0 : Int) - 240) = (b0 : Int) - 240 := w64 (by omega) (by omega)
      rw [dec4 m b0 b1 b2 b3 c2 hlt, e4, ← hm]
      exact Ev.pos (by omega) (at4 s pos _ hs hp (by omega) (by omega) b1 b2 b3 hb1 hb2 hb3)
    · refine Ev.neg (by omega) ?_
      by_cases c3 : b0 ≥ 224
      · have e4 : wrap64 ((b0 : Int) - 224) = (b0 : Int) - 224 := w64 (by omega) (by omega)
        rw [dec3 m b0 b1 b2 b3 c3 (by omega), e4, ← hm]
        exact Ev.pos (by omega) (at3 s pos _ hs hp (by omega) (by omega) b1 b2 hb1 hb2)
      · refine Ev.neg (by omega) ?_
        by_cases c4 : b0 ≥ 192
        · have e4 : wrap64 ((b0 : Int) - 192) = (b0 : Int) - 192 := w64 (by omega) (by omega)
          rw [dec2 m b0 b1 b2 b3 c4 (by omega), e4, ← hm]
          exact Ev.pos (by omega) (at2 s pos _ hs hp (by omega) (by omega) b1 hb1)
        · rw [dec0 m b0 b1 b2 b3 (by omega) (by omega)]
          exact Ev.neg (by omega) (Ev.now _)

/-! ### The whole text -/
def badAt (s : ByteArray) (pos : Nat) : Bool := decide ((Utf8.decode s pos).1 = 65533 ∧ (Utf8.decode s pos).2 = 1)
def validFrom (s : ByteArray) : Nat → Nat → Bool
  | 0, _ => true
  | n + 1, pos => if pos < s.size then (if badAt s pos then false else validFrom s n (pos + (Utf8.decode s pos).2)) else true

theorem decode_len (s : ByteArray) (pos : Nat) : (Utf8.decode s pos).2 ≤ 4 := by
  rw [Lib.decode_at]
  unfold Lib.decodeN
  repeat' split
  all_goals simp

theorem spec_loop (s : ByteArray) (hs : s.size ≤ 1048576) (fuel : Nat) : ∀ (pos : Nat) (acc : List Int), s.size ≤ pos + fuel → acc.length ≤ pos →
    Ev (fun k => spec_l01Decode.l0 k s acc (pos : Int)) (if validFrom s fuel pos then (acc ++ impl_Decode.runes s fuel pos, true) else ([], false)) := by
  induction fuel with
  | zero =>
    intro pos acc h1 h2
    rw [validFrom, if_pos rfl, impl_Decode.runes, List.append_nil]
    refine Ev.step (fun k => ?_) (Ev.now _)
    rw [spec_l01Decode.l0, if_neg (by omega)]
  | succ n ih =>
    intro pos acc h1 h2
    rw [validFrom, impl_Decode.runes]
    by_cases hp : pos < s.size
    · have hat := at_step s pos hs hp
      have hw := Lib.width_pos s pos
      have hw4 := decode_len s pos
      rw [if_pos hp, if_pos hp]
      refine Ev.step (f := fun k => (spec_l01At.f k s (pos : Int)).bind fun bt120 => if bt120.2 = 0 then some ([], false) else if acc.length < 17592186044416 then spec_l01Decode.l0 k s (acc ++ [bt120.1]) (wrap64 ((pos : Int) + bt120.2)) else none) (fun k => by rw [spec_l01Decode.l0, if_pos (by omega)]) (Ev.bind hat ?_)
      by_cases hb : badAt s pos = true
      · rw [if_pos hb]
        have hb' := of_decide_eq_true hb
        have e : stepR (Utf8.decode s pos) = (0, 0) := by unfold stepR; rw [if_pos hb']
        rw [e]
        exact Ev.pos rfl (Ev.now _)
      · rw [if_neg hb]
        have hb' : ¬ ((Utf8.decode s pos).1 = 65533 ∧ (Utf8.decode s pos).2 = 1) := fun h => hb (decide_eq_true h)
        have e : stepR (Utf8.decode s pos) = (((Utf8.decode s pos).1 : Int), ((Utf8.decode s pos).2 : Int)) := by unfold stepR; rw [if_neg hb']
        have e5 : wrap64 ((pos : Int) + ((Utf8.decode s pos).2 : Int)) = ((pos + (Utf8.decode s pos).2 : Nat) : Int) := by rw [w64 (by omega) (by omega)]; omega
        rw [e]
        simp only
        rw [e5]
        refine Ev.neg (by omega) (Ev.pos (by omega) ?_)
        have h' := ih (pos + (Utf8.decode s pos).2) (acc ++ [((Utf8.decode s pos).1 : Int)]) (by omega) (by simp; omega)
        rw [List.append_assoc] at h'
        exact h'
    · rw [if_neg hp, if_pos rfl, if_neg hp, List.append_nil]
      refine Ev.step (fun k => ?_) (Ev.now _)
      rw [spec_l01Decode.l0, if_neg (by omega)]

theorem decode_drop (s : ByteArray) (pos : Nat) : Lib.decodeL (s.data.toList.drop pos) = Utf8.decode s pos := by
  unfold Lib.decodeL
  have hsz : (⟨(s.data.toList.drop pos).toArray⟩ : ByteArray).size = s.size - pos := by
    show (s.data.toList.drop pos).toArray.size = _
    rw [List.size_toArray, List.length_drop, data_length]
  have hg : ∀ j, (⟨(s.data.toList.drop pos).toArray⟩ : ByteArray).get! j = s.get! (pos + j) := by
    intro j
    rw [← Lib.getD_get!', ← Lib.getD_get!']
    show (s.data.toList.drop pos).getD j 0 = _
    rw [List.getD_eq_getElem?_getD, List.getD_eq_getElem?_getD, List.getElem?_drop]
  rw [Lib.decode_at, Lib.decode_at, hsz, hg, hg, hg, hg]; rfl

theorem valid_from (s : ByteArray) (fuel : Nat) : ∀ pos : Nat, s.size ≤ pos + fuel → Lib.validD (s.data.toList.drop pos) = validFrom s fuel pos := by
  induction fuel with
  | zero =>
    intro pos h
    rw [List.drop_of_length_le (by rw [data_length]; omega), validFrom]; rfl
  | succ n ih =>
    intro pos h
    rw [validFrom]
    by_cases hp : pos < s.size
    · have hne : s.data.toList.drop pos ≠ [] := by
        intro e
        have := congrArg List.length e
        rw [List.length_drop, data_length] at this
        simp at this; omega
      have hw := Lib.width_pos s pos
      rw [if_pos hp, Lib.validD_step _ hne, decode_drop, List.drop_drop, ih (pos + (Utf8.decode s pos).2) (by omega)]
      unfold badAt
      by_cases hb : (Utf8.decode s pos).1 = 65533 ∧ (Utf8.decode s pos).2 = 1
      · rw [if_pos hb, decide_eq_true hb]; rfl
      · rw [if_neg hb, decide_eq_false hb]; rfl
    · rw [if_neg hp, List.drop_of_length_le (by rw [data_length]; omega)]; rfl

theorem valid_all (s : ByteArray) : Lib.validD s.data.toList = validFrom s s.size 0 := by
  have := valid_from s s.size 0 (by omega)
  rwa [List.drop_zero] at this

/-- What both tell of a text. -/
def decTell (s : ByteArray) : List Int × Int := if (s.size : Int) > 65536 then ([], 2) else if Lib.validD s.data.toList = true then (impl_Decode.runes s s.size 0, 0) else ([], 3)
theorem impl_Decode_eq (s : ByteArray) : impl_Decode.f s = some (decTell s) := by
  unfold impl_Decode.f decTell
  split
  · rfl
  · split <;> rfl
theorem runes_length (s : ByteArray) (fuel : Nat) : ∀ pos, (impl_Decode.runes s fuel pos).length ≤ fuel := by
  induction fuel with
  | zero => intro pos; simp [impl_Decode.runes]
  | succ n ih =>
    intro pos
    rw [impl_Decode.runes]
    split
    · rw [List.length_cons]; have := ih (pos + (Utf8.decode s pos).2); omega
    · simp
theorem decTell_length (s : ByteArray) : (decTell s).1.length ≤ 65536 := by
  unfold decTell
  split
  · simp
  · split
    · have := runes_length s s.size 0; simp only; omega
    · simp
theorem l01Decode_eq (s : ByteArray) (hs : s.size ≤ 1048576) : Ev (fun k => spec_l01Decode.f k s) (if Lib.validD s.data.toList = true then (impl_Decode.runes s s.size 0, true) else ([], false)) := by
  have h := spec_loop s hs s.size 0 [] (by omega) (by simp)
  rw [List.nil_append] at h
  rw [valid_all]
  exact h
theorem spec_Decode_eq (s : ByteArray) : Ev (fun k => spec_Decode.f k s) (decTell s) := by
  unfold spec_Decode.f decTell
  by_cases hb : (s.size : Int) > 65536
  · rw [if_pos hb]; exact Ev.pos hb (Ev.now _)
  · rw [if_neg hb]
    refine Ev.neg hb (Ev.bind (l01Decode_eq s (by omega)) ?_)
    by_cases hv : Lib.validD s.data.toList = true
    · rw [if_pos hv, if_pos hv]; exact Ev.pos rfl (Ev.now _)
    · rw [if_neg hv, if_neg hv]; exact Ev.neg Bool.false_ne_true (Ev.now _)

/-! ### What a text that is a row of characters decodes to -/
theorem finR_inv (v n a b : Int) (h : finR v n = (a, b)) (hb : b ≠ 0) : chOK a = true ∧ ((eb a).length : Int) = b ∧ b = n := by
  unfold finR at h
  split at h
  · rename_i c
    have h1 : v = a := congrArg Prod.fst h
    have h2 : n = b := congrArg Prod.snd h
    subst h1; subst h2
    exact ⟨c.1, c.2, rfl⟩
  · have h2 : (0 : Int) = b := congrArg Prod.snd h
    omega
theorem good_step (s : ByteArray) (pos : Nat) (hp : pos < s.size) (hb : ¬ badAt s pos = true) :
    chOK ((Utf8.decode s pos).1 : Int) = true ∧ (eb ((Utf8.decode s pos).1 : Int)).length = (Utf8.decode s pos).2 ∧ pos + (Utf8.decode s pos).2 ≤ s.size := by
  have hw := Lib.width_pos s pos
  have hb' : ¬ ((Utf8.decode s pos).1 = 65533 ∧ (Utf8.decode s pos).2 = 1) := fun h => hb (decide_eq_true h)
  have e : stepR (Utf8.decode s pos) = (((Utf8.decode s pos).1 : Int), ((Utf8.decode s pos).2 : Int)) := by unfold stepR; rw [if_neg hb']
  have hd := Lib.decode_at s pos
  have hlt : (s.get! pos).toNat < 256 := UInt8.toNat_lt _
  generalize hm : s.size - pos = m at hd
  generalize (s.get! pos).toNat = b0 at hd hlt
  generalize (s.get! (pos + 1)).toNat = b1 at hd
  generalize (s.get! (pos + 2)).toNat = b2 at hd
  generalize (s.get! (pos + 3)).toNat = b3 at hd
  clear hb hb'
  generalize Utf8.decode s pos = d at *
  have fin : ∀ (c : Prop) [Decidable c] (v : Int) (n : Nat), stepR (Lib.decodeN m b0 b1 b2 b3) = (if c then finR v (n : Int) else (0, 0)) → (c → n ≤ m) → chOK (d.1 : Int) = true ∧ (eb (d.1 : Int)).length = d.2 ∧ pos + d.2 ≤ s.size := by
    intro c _ v n h hc
    rw [← hd] at h
    rw [e] at h
    by_cases g : c
    · rw [if_pos g] at h
      have := finR_inv _ _ _ _ h.symm (by omega)
      have := hc g
      exact ⟨(finR_inv _ _ _ _ h.symm (by omega)).1, by omega, by omega⟩
    · rw [if_neg g] at h
      have h2 : (d.2 : Int) = 0 := congrArg Prod.snd h
      omega
  by_cases c1 : b0 < 128
  · have h := dec1 m b0 b1 b2 b3 c1
    rw [← hd] at h; rw [e] at h
    have h1 : (d.1 : Int) = b0 := congrArg Prod.fst h
    have h2 : (d.2 : Int) = 1 := congrArg Prod.snd h
    refine ⟨(chOK_iff _).2 (by omega), ?_, by omega⟩
    have := eb_len (d.1 : Int)
    rw [if_pos (by omega)] at this
    omega
  · by_cases c2 : b0 ≥ 240
    · exact fin _ _ 4 (dec4 m b0 b1 b2 b3 c2 hlt) (fun h => by omega)
    · by_cases c3 : b0 ≥ 224
      · exact fin _ _ 3 (dec3 m b0 b1 b2 b3 c3 (by omega)) (fun h => by omega)
      · by_cases c4 : b0 ≥ 192
        · exact fin _ _ 2 (dec2 m b0 b1 b2 b3 c4 (by omega)) (fun h => by omega)
        · have h := dec0 m b0 b1 b2 b3 (by omega) (by omega)
          rw [← hd] at h; rw [e] at h
          have h2 : (d.2 : Int) = 0 := congrArg Prod.snd h
          omega
theorem runes_good (s : ByteArray) (fuel : Nat) : ∀ pos, pos ≤ s.size → validFrom s fuel pos = true → (∀ x, x ∈ impl_Decode.runes s fuel pos → chOK x = true) ∧ pos + (ebs (impl_Decode.runes s fuel pos)).length ≤ s.size := by
  induction fuel with
  | zero => intro pos hp _; simp [impl_Decode.runes, ebs]; exact hp
  | succ n ih =>
    intro pos hp hv
    rw [validFrom] at hv
    rw [impl_Decode.runes]
    by_cases h : pos < s.size
    · rw [if_pos h] at hv ⊢
      by_cases hb : badAt s pos = true
      · rw [if_pos hb] at hv; cases hv
      · rw [if_neg hb] at hv
        obtain ⟨g1, g2, g3⟩ := good_step s pos h hb
        obtain ⟨i1, i2⟩ := ih _ g3 hv
        have e : ebs (((Utf8.decode s pos).1 : Int) :: impl_Decode.runes s n (pos + (Utf8.decode s pos).2)) = eb ((Utf8.decode s pos).1 : Int) ++ ebs (impl_Decode.runes s n (pos + (Utf8.decode s pos).2)) := by simp [ebs]
        refine ⟨fun x hx => ?_, ?_⟩
        · rcases List.mem_cons.1 hx with rfl | hx
          · exact g1
          · exact i1 x hx
        · rw [e, List.length_append]; omega
    · rw [if_neg h]; simp [ebs]; exact hp
theorem decTell_good (s : ByteArray) (h : (decTell s).2 = 0) : s.size ≤ 65536 ∧ Lib.validD s.data.toList = true ∧ (decTell s).1 = impl_Decode.runes s s.size 0 ∧ (∀ x, x ∈ (decTell s).1 → chOK x = true) ∧ (ebs (decTell s).1).length ≤ 65536 := by
  unfold decTell at *
  by_cases c : (s.size : Int) > 65536
  · rw [if_pos c] at h; cases h
  · rw [if_neg c] at h ⊢
    by_cases v : Lib.validD s.data.toList = true
    · rw [if_pos v] at h ⊢
      have := runes_good s s.size 0 (by omega) (by rw [← valid_all]; exact v)
      exact ⟨by omega, v, rfl, this.1, by have := this.2; simp only; omega⟩
    · rw [if_neg v] at h; cases h

def upper (a : Int) : Bool := decide ((65 ≤ a ∧ a ≤ 90) ∨ (192 ≤ a ∧ a ≤ 222 ∧ a ≠ 215) ∨ (913 ≤ a ∧ a ≤ 939 ∧ a ≠ 930) ∨ (1040 ≤ a ∧ a ≤ 1071))
def out6 (x : Int) : Int := if x = 253 ∨ x = 255 then 121 else x
def out5 (x : Int) : Int := if 249 ≤ x ∧ x ≤ 252 then 117 else out6 x
def out4 (x : Int) : Int := if x = 241 then 110 else if (242 ≤ x ∧ x ≤ 246) ∨ x = 248 then 111 else out5 x
def out3 (x : Int) : Int := if 236 ≤ x ∧ x ≤ 239 then 105 else out4 x
def out2 (x : Int) : Int := if x = 231 then 99 else if 232 ≤ x ∧ x ≤ 235 then 101 else out3 x
def out1 (x : Int) : Int := if 224 ≤ x ∧ x ≤ 229 then 97 else out2 x

theorem within_eq (a lo hi : Int) : impl_within.f a lo hi = some (decide (lo ≤ a ∧ a ≤ hi)) := by
  unfold impl_within.f
  split
  · congr 1; simp; omega
  · congr 1; simp; omega

theorem i3 (k : Nat) (x : Int) (b : Bool) : impl_Fold.j3 (k + 1) x b = some (if b = true then 111 else out5 x) := by
  simp only [impl_Fold.j3, within_eq, Option.bind_some, decide_eq_true_eq, out5, out6]
  (repeat' split) <;> first | rfl | (exfalso; omega)
theorem i2 (k : Nat) (x : Int) : impl_Fold.j2 (k + 2) x = some (out1 x) := by
  simp only [impl_Fold.j2, within_eq, Option.bind_some, decide_eq_true_eq, i3, out1, out2, out3, out4, beq_iff_eq, Bool.false_eq_true, if_false, if_true]
  (repeat' split) <;> first | rfl | (exfalso; omega)
theorem i1 (k : Nat) (x : Int) (b : Bool) : impl_Fold.j1 (k + 3) x b = some (out1 (if b = true then wrap64 (x + 32) else if 1024 ≤ x ∧ x ≤ 1039 then wrap64 (x + 80) else x)) := by
  simp only [impl_Fold.j1, within_eq, Option.bind_some, decide_eq_true_eq, i2]
  (repeat' split) <;> first | rfl | (exfalso; omega)
theorem i0 (k : Nat) (x : Int) (b : Bool) : impl_Fold.j0 (k + 1) x b = impl_Fold.j1 k x (b || decide ((913 ≤ x ∧ x ≤ 939 ∧ x ≠ 930) ∨ (1040 ≤ x ∧ x ≤ 1071))) := by
  simp only [impl_Fold.j0, within_eq, Option.bind_some, decide_eq_true_eq, Bool.false_eq_true, if_false, if_true]
  (repeat' split) <;> (congr 1; rw [Bool.eq_iff_iff]; simp_all; try omega)
theorem iff (k : Nat) (a : Int) : impl_Fold.f (k + 4) a = some (out1 (if upper a = true then wrap64 (a + 32) else if 1024 ≤ a ∧ a ≤ 1039 then wrap64 (a + 80) else a)) := by
  unfold impl_Fold.f
  simp only [within_eq, Option.bind_some, decide_eq_true_eq, i0, i1]
  (repeat' split) <;> simp_all [upper] <;> omega

def foldv (a : Int) : Int := out1 (if upper a = true then wrap64 (a + 32) else if 1024 ≤ a ∧ a ≤ 1039 then wrap64 (a + 80) else a)
theorem impl_Fold_eq (a : Int) : Ev (fun k => impl_Fold.f k a) (foldv a) := ⟨4, fun k hk => by obtain ⟨m, rfl⟩ : ∃ m, k = m + 4 := ⟨k - 4, by omega⟩; show impl_Fold.f (m + 4) a = _; rw [iff]; rfl⟩
theorem out1_ok (x : Int) (h : chOK x = true) : chOK (out1 x) = true ∧ ((eb (out1 x)).length : Int) ≤ ((eb x).length : Int) := by
  rw [chOK_iff] at h
  rw [chOK_iff, eb_len, eb_len]
  unfold out1 out2 out3 out4 out5 out6
  (repeat' split) <;> omega
theorem up_ok (a : Int) (h : chOK a = true) : chOK (if upper a = true then wrap64 (a + 32) else if 1024 ≤ a ∧ a ≤ 1039 then wrap64 (a + 80) else a) = true ∧ ((eb (if upper a = true then wrap64 (a + 32) else if 1024 ≤ a ∧ a ≤ 1039 then wrap64 (a + 80) else a)).length : Int) ≤ ((eb a).length : Int) := by
  have h' := h
  rw [chOK_iff] at h
  have e1 : wrap64 (a + 32) = a + 32 := w64 (by omega) (by omega)
  have e2 : wrap64 (a + 80) = a + 80 := w64 (by omega) (by omega)
  rw [e1, e2]
  split
  · rename_i u
    have u := of_decide_eq_true u
    rw [chOK_iff, eb_len, eb_len]
    (repeat' split) <;> omega
  · split
    · rw [chOK_iff, eb_len, eb_len]
      (repeat' split) <;> omega
    · exact ⟨h', Int.le_refl _⟩
theorem foldv_ok (a : Int) (h : chOK a = true) : chOK (foldv a) = true ∧ (eb (foldv a)).length ≤ (eb a).length := by
  obtain ⟨h1, h2⟩ := up_ok a h
  obtain ⟨h3, h4⟩ := out1_ok _ h1
  refine ⟨h3, ?_⟩
  unfold foldv
  omega
theorem folds_ok (l : List Int) (h : ∀ x, x ∈ l → chOK x = true) : (∀ x, x ∈ l.map foldv → chOK x = true) ∧ (ebs (l.map foldv)).length ≤ (ebs l).length := by
  induction l with
  | nil => simp [ebs]
  | cons a l ih =>
    obtain ⟨i1, i2⟩ := ih (fun x hx => h x (List.mem_cons_of_mem _ hx))
    obtain ⟨j1, j2⟩ := foldv_ok a (h a (List.mem_cons_self ..))
    have e : ∀ (b : Int) (m : List Int), ebs (b :: m) = eb b ++ ebs m := by intro b m; simp [ebs]
    rw [List.map_cons]
    refine ⟨fun x hx => ?_, ?_⟩
    · rcases List.mem_cons.1 hx with rfl | hx
      · exact j1
      · exact i1 x hx
    · rw [e, e, List.length_append, List.length_append]; omega
def mix (xs : List Int) (i : Nat) : List Int := (xs.map foldv).take i ++ xs.drop i
theorem mix_zero (xs : List Int) : mix xs 0 = xs := by simp [mix]
theorem mix_end (xs : List Int) : mix xs xs.length = xs.map foldv := by unfold mix; rw [List.drop_length, List.append_nil, List.take_of_length_le (by simp)]
theorem mix_len (xs : List Int) (i : Nat) (h : i ≤ xs.length) : (mix xs i).length = xs.length := by simp [mix]; omega
theorem mix_rd (xs : List Int) (i : Nat) (h : i < xs.length) : rd (mix xs i) (i : Int) = xs[i] := by
  rw [rd_nat, List.getD_eq_getElem?_getD, mix, List.getElem?_append_right (by simp; omega)]
  simp only [List.length_take, List.length_map]
  rw [Nat.min_eq_left (by omega), Nat.sub_self, List.getElem?_drop, Nat.add_zero, List.getElem?_eq_getElem h]; rfl
theorem mix_set (xs : List Int) (i : Nat) (h : i < xs.length) : (mix xs i).set i (foldv xs[i]) = mix xs (i + 1) := by
  unfold mix
  rw [List.set_append_right i (foldv xs[i]) (by simp; omega)]
  simp only [List.length_take, List.length_map]
  rw [Nat.min_eq_left (by omega), Nat.sub_self, List.drop_eq_getElem_cons h, List.set_cons_zero, List.take_succ_eq_append_getElem (by simp; omega), List.append_assoc, List.getElem_map]; rfl
theorem impl_loopF (xs : List Int) (r : ByteArray × Int) (hn : xs.length ≤ 65536) (he : Ev (fun k => impl_Encode.f k (xs.map foldv)) r) (d : Nat) : ∀ i, i + d = xs.length → Ev (fun k => impl_FoldText.l0 k (mix xs i) (xs.length : Int) (i : Int)) r := by
  induction d with
  | zero =>
    intro i hi
    obtain rfl : i = xs.length := by omega
    rw [mix_end]
    refine Ev.step (f := fun k => (impl_Encode.f k (xs.map foldv)).bind fun t => some (t.1, t.2)) (fun k => by rw [impl_FoldText.l0, if_neg (by omega)]) (Ev.bind he (Ev.now _))
  | succ d ih =>
    intro i hi
    have h : i < xs.length := by omega
    refine Ev.step (f := fun k => (impl_Fold.f k xs[i]).bind fun t => impl_FoldText.l0 k ((mix xs i).set i t) (xs.length : Int) ((i + 1 : Nat) : Int)) (fun k => ?_) (Ev.bind (impl_Fold_eq _) ?_)
    · rw [impl_FoldText.l0, if_pos (by omega), if_pos (by omega), if_pos (by rw [mix_len xs i (by omega)]; omega), mix_rd xs i h]
      have e : wrap64 ((i : Int) + 1) = ((i + 1 : Nat) : Int) := by rw [w64 (by omega) (by omega)]; omega
      rw [e, Int.toNat_natCast]
    · rw [mix_set xs i h]; exact ih (i + 1) (by omega)
def foldTell (s : ByteArray) : ByteArray × Int := if (decTell s).2 = 0 then (strOfNums (ebs ((decTell s).1.map foldv)), 0) else (⟨#[]⟩, (decTell s).2)
theorem good_getD (xs : List Int) (h : ∀ x, x ∈ xs → chOK x = true) : ∀ i, i < xs.length → chOK (xs.getD i 0) = true := by
  intro i hi
  rw [List.getD_eq_getElem?_getD, List.getElem?_eq_getElem hi]
  exact h _ (List.getElem_mem hi)
theorem impl_FoldText_eq (s : ByteArray) : Ev (fun k => impl_FoldText.f k s) (foldTell s) := by
  unfold impl_FoldText.f foldTell
  refine Ev.bind (Ev.ofEq (impl_Decode_eq s)) ?_
  by_cases h : (decTell s).2 = 0
  · rw [if_pos h]
    obtain ⟨g1, g2, g3, g4, g5⟩ := decTell_good s h
    have hl := decTell_length s
    refine Ev.pos h ?_
    have hf := folds_ok _ g4
    have he : encTell ((decTell s).1.map foldv) = (strOfNums (ebs ((decTell s).1.map foldv)), 0) := by
      unfold encTell
      rw [if_neg (by simp; omega), if_pos (List.all_eq_true.2 hf.1), if_neg (by omega)]
    have := impl_loopF (decTell s).1 _ hl (Ev.from ((decTell s).1.length + 2) fun k hk => by rw [impl_Encode_eq ((decTell s).1.map foldv) k (by simp; omega), he]) (decTell s).1.length 0 (by omega)
    rw [mix_zero] at this
    exact this
  · rw [if_neg h]; exact Ev.neg h (Ev.now _)

/-! ### A text is the bytes of its characters, one behind the other -/
theorem take4 (n : Nat) (l : List Int) (h4 : n ≤ 4) (hn : n ≤ l.length) : l.take n = ([l.getD 0 0, l.getD 1 0, l.getD 2 0, l.getD 3 0] : List Int).take n := by
  have h : n = 0 ∨ n = 1 ∨ n = 2 ∨ n = 3 ∨ n = 4 := by omega
  rcases h with rfl | rfl | rfl | rfl | rfl
  · rfl
  · rcases l with _ | ⟨a, l⟩ <;> first | rfl | (simp at hn; done) | (exfalso; simp at hn; omega)
  · rcases l with _ | ⟨a, _ | ⟨b, l⟩⟩ <;> first | rfl | (simp at hn; done) | (exfalso; simp at hn; omega)
  · rcases l with _ | ⟨a, _ | ⟨b, _ | ⟨c, l⟩⟩⟩ <;> first | rfl | (simp at hn; done) | (exfalso; simp at hn; omega)
  · rcases l with _ | ⟨a, _ | ⟨b, _ | ⟨c, _ | ⟨d, l⟩⟩⟩⟩ <;> first | rfl | (simp at hn; done) | (exfalso; simp at hn; omega)
theorem decN_bytes (m b0 b1 b2 b3 : Nat) (h0 : b0 < 256) (h1 : b1 < 256) (h2 : b2 < 256) (h3 : b3 < 256) (hb : ¬ ((Lib.decodeN m b0 b1 b2 b3).1 = 65533 ∧ (Lib.decodeN m b0 b1 b2 b3).2 = 1)) :
    eb ((Lib.decodeN m b0 b1 b2 b3).1 : Int) = ([(b0 : Int), (b1 : Int), (b2 : Int), (b3 : Int)] : List Int).take (Lib.decodeN m b0 b1 b2 b3).2 := by
  unfold Lib.decodeN at *
  by_cases c1 : b0 < 128
  · rw [if_pos c1]; unfold eb; rw [if_pos (by simp only; omega)]; rfl
  · rw [if_neg c1] at hb ⊢
    by_cases c2 : b0 / 32 = 6 ∧ (1 < m ∧ b1 / 64 = 2)
    · rw [if_pos c2] at hb ⊢
      by_cases c3 : b0 % 32 * 64 + b1 % 64 ≥ 128
      · rw [if_pos c3]
        generalize hv : b0 % 32 * 64 + b1 % 64 = v at *
        have e1 : 192 + (v : Int) / 64 = b0 := by omega
        have e2 : 128 + (v : Int) % 64 = b1 := by omega
        unfold eb
        rw [if_neg (by simp only; omega), if_pos (by simp only; omega)]
        simp only
        rw [e1, e2]; rfl
      · rw [if_neg c3] at hb; exact absurd ⟨rfl, rfl⟩ hb
    · rw [if_neg c2] at hb ⊢
      by_cases c4 : b0 / 16 = 14 ∧ (1 < m ∧ b1 / 64 = 2) ∧ (2 < m ∧ b2 / 64 = 2)
      · rw [if_pos c4] at hb ⊢
        generalize hv : b0 % 16 * 4096 + b1 % 64 * 64 + b2 % 64 = v at *
        split at hb
        · rename_i c5
          rw [if_pos c5]
          have e1 : 224 + (v : Int) / 4096 = b0 := by omega
          have e2 : 128 + (v : Int) / 64 % 64 = b1 := by omega
          have e3 : 128 + (v : Int) % 64 = b2 := by omega
          unfold eb
          rw [if_neg (by simp only; omega), if_neg (by simp only; omega), if_pos (by simp only; omega)]
          simp only
          rw [e1, e2, e3]; rfl
        · exact absurd ⟨rfl, rfl⟩ hb
      · rw [if_neg c4] at hb ⊢
        by_cases c6 : b0 / 8 = 30 ∧ (1 < m ∧ b1 / 64 = 2) ∧ (2 < m ∧ b2 / 64 = 2) ∧ (3 < m ∧ b3 / 64 = 2)
        · rw [if_pos c6] at hb ⊢
          generalize hv : b0 % 8 * 262144 + b1 % 64 * 4096 + b2 % 64 * 64 + b3 % 64 = v at *
          split at hb
          · rename_i c5
            rw [if_pos c5]
            have e1 : 240 + (v : Int) / 262144 = b0 := by omega
            have e2 : 128 + (v : Int) / 4096 % 64 = b1 := by omega
            have e3 : 128 + (v : Int) / 64 % 64 = b2 := by omega
            have e4 : 128 + (v : Int) % 64 = b3 := by omega
            unfold eb
            rw [if_neg (by simp only; omega), if_neg (by simp only; omega), if_neg (by simp only; omega)]
            simp only
            rw [e1, e2, e3, e4]; rfl
          · exact absurd ⟨rfl, rfl⟩ hb
        · rw [if_neg c6] at hb; exact absurd ⟨rfl, rfl⟩ hb
theorem bytes_getD (s : ByteArray) (i : Nat) : (bytesOf s).getD i 0 = ((s.get! i).toNat : Int) := by
  have h := rd_bytesOf s (i : Int)
  rw [rd_nat] at h
  rw [h, bt_get]
theorem good_eb (s : ByteArray) (pos : Nat) (hp : pos < s.size) (hb : ¬ badAt s pos = true) : eb ((Utf8.decode s pos).1 : Int) = ((bytesOf s).drop pos).take (Utf8.decode s pos).2 := by
  obtain ⟨_, _, g3⟩ := good_step s pos hp hb
  have hl := decode_len s pos
  rw [take4 _ _ hl (by rw [List.length_drop, bytesOf_length]; omega)]
  have e : ∀ j, ((bytesOf s).drop pos).getD j 0 = ((s.get! (pos + j)).toNat : Int) := by
    intro j
    rw [← bytes_getD, List.getD_eq_getElem?_getD, List.getElem?_drop, ← List.getD_eq_getElem?_getD]
  rw [e, e, e, e]
  have hb' : ¬ ((Utf8.decode s pos).1 = 65533 ∧ (Utf8.decode s pos).2 = 1) := fun h => hb (decide_eq_true h)
  rw [Lib.decode_at] at hb' ⊢
  exact decN_bytes _ _ _ _ _ (UInt8.toNat_lt _) (UInt8.toNat_lt _) (UInt8.toNat_lt _) (UInt8.toNat_lt _) hb'
theorem ebs_cons (a : Int) (l : List Int) : ebs (a :: l) = eb a ++ ebs l := by simp [ebs]
theorem ebs_app (l m : List Int) : ebs (l ++ m) = ebs l ++ ebs m := by simp [ebs]
theorem all_bytes (s : ByteArray) (fuel : Nat) : ∀ pos, pos ≤ s.size → s.size ≤ pos + fuel → validFrom s fuel pos = true → (bytesOf s).drop pos = ebs (impl_Decode.runes s fuel pos) := by
  induction fuel with
  | zero =>
    intro pos h1 h2 _
    rw [List.drop_of_length_le (by rw [bytesOf_length]; omega), impl_Decode.runes]; rfl
  | succ n ih =>
    intro pos h1 h2 hv
    rw [validFrom] at hv
    rw [impl_Decode.runes]
    by_cases h : pos < s.size
    · rw [if_pos h] at hv ⊢
      by_cases hb : badAt s pos = true
      · rw [if_pos hb] at hv; cases hv
      · rw [if_neg hb] at hv
        obtain ⟨_, _, g3⟩ := good_step s pos h hb
        have hw := Lib.width_pos s pos
        rw [ebs_cons, good_eb s pos h hb, ← ih _ g3 (by omega) hv, ← List.drop_drop, List.take_append_drop]
    · rw [if_neg h, List.drop_of_length_le (by rw [bytesOf_length]; omega)]; rfl
theorem str_bytes (s : ByteArray) : strOfNums (bytesOf s) = s := by
  cases s with
  | mk d =>
    unfold strOfNums bytesOf
    congr 1
    rw [List.map_map]
    have e : ((fun n : Int => UInt8.ofNat n.toNat) ∘ fun b : UInt8 => (b.toNat : Int)) = id := by funext b; simp
    rw [e, List.map_id]
theorem text_back (s : ByteArray) (h : Lib.validD s.data.toList = true) : bytesOf s = ebs (impl_Decode.runes s s.size 0) := by
  have := all_bytes s s.size 0 (by omega) (by omega) (by rw [← valid_all]; exact h)
  rwa [List.drop_zero] at this
theorem cut_bytes (s : ByteArray) (p q : Nat) : s.extract p q = strOfNums (((bytesOf s).take q).drop p) := by
  rw [← str_bytes (s.extract p q)]
  congr 1
  unfold bytesOf
  rw [← List.map_take, ← List.map_drop]
  congr 1
  rw [ByteArray.data_extract, Array.toList_extract]
  rw [List.extract_eq_take_drop, List.drop_take]
theorem ebs_cut (R : List Int) (i j : Nat) (h : i ≤ j) (hj : j ≤ R.length) : ((ebs R).take (ebs (R.take j)).length).drop (ebs (R.take i)).length = ebs ((R.take j).drop i) ∧ (ebs (R.take j)).length = (ebs (R.take i)).length + (ebs ((R.take j).drop i)).length := by
  have e1 : R.take j = R.take i ++ (R.take j).drop i := by
    have := List.take_append_drop i (R.take j)
    rw [List.take_take, Nat.min_eq_left h] at this
    exact this.symm
  have e2 : ebs R = ebs (R.take j) ++ ebs (R.drop j) := by rw [← ebs_app, List.take_append_drop]
  have e3 : ebs (R.take j) = ebs (R.take i) ++ ebs ((R.take j).drop i) := by
    have := congrArg ebs e1
    rwa [ebs_app] at this
  refine ⟨?_, by have := congrArg List.length e3; rwa [List.length_append] at this⟩
  rw [e2, List.take_left, e3, List.drop_left]

/-! ### Both Class functions tell the same kind of a character -/
def cl_letter (a : Int) : Bool := decide ((65 ≤ a ∧ a ≤ 90) ∨ (97 ≤ a ∧ a ≤ 122) ∨ (192 ≤ a ∧ a ≤ 591 ∧ a ≠ 215 ∧ a ≠ 247) ∨ (880 ≤ a ∧ a ≤ 1279))
def clsv (a : Int) : Int := if cl_letter a = true then 1 else if 48 ≤ a ∧ a ≤ 57 then 2 else if a = 39 ∨ a = 95 then 3 else if (12352 ≤ a ∧ a ≤ 12543) ∨ (19968 ≤ a ∧ a ≤ 40959) then 4 else 0

theorem cl_within_eq (a lo hi : Int) : impl_within.f a lo hi = some (decide (lo ≤ a ∧ a ≤ hi)) := by
  unfold impl_within.f
  split
  · congr 1; simp; omega
  · congr 1; simp; omega

theorem cl_s2 (k : Nat) (a : Int) (b : Bool) : spec_Class.j2 (k + 1) a b = some (if b = true then 3 else if (12352 ≤ a ∧ a ≤ 12543) ∨ (19968 ≤ a ∧ a ≤ 40959) then 4 else 0) := by
  simp only [spec_Class.j2]
  (repeat' split) <;> first | rfl | (exfalso; omega)

theorem cl_s1 (k : Nat) (a : Int) (b : Bool) : spec_Class.j1 (k + 2) a b = some (if b = true then 2 else if a = 39 ∨ a = 95 then 3 else if (12352 ≤ a ∧ a ≤ 12543) ∨ (19968 ≤ a ∧ a ≤ 40959) then 4 else 0) := by
  simp only [spec_Class.j1, cl_s2]
  by_cases hb : b = true
  · simp [hb]
  · by_cases h39 : a = 39
    · simp [hb, h39]
    · by_cases h95 : a = 95
      · simp [hb, h95]
      · simp [hb, h39, h95]

theorem cl_s0 (k : Nat) (a : Int) (b : Bool) : spec_Class.j0 (k + 3) a b = some (if b = true then 1 else if 48 ≤ a ∧ a ≤ 57 then 2 else if a = 39 ∨ a = 95 then 3 else if (12352 ≤ a ∧ a ≤ 12543) ∨ (19968 ≤ a ∧ a ≤ 40959) then 4 else 0) := by
  simp only [spec_Class.j0, cl_s1]
  by_cases hb : b = true
  · simp [hb]
  · by_cases h1 : a ≥ 48
    · have h1' : 48 ≤ a := h1
      simp [hb, h1']
    · have h1' : ¬ 48 ≤ a := h1
      simp [hb, h1']

theorem cl_sf (k : Nat) (a : Int) : spec_Class.f k a = spec_Class.j0 k a (cl_letter a) := by
  unfold spec_Class.f
  (repeat' split) <;> (congr 1; rw [Bool.eq_iff_iff]; simp [cl_letter]; try omega)

theorem cl_i1 (k : Nat) (a : Int) (b : Bool) : impl_Class.j1 (k + 1) a b = some (if b = true then 3 else if (12352 ≤ a ∧ a ≤ 12543) ∨ (19968 ≤ a ∧ a ≤ 40959) then 4 else 0) := by
  simp only [impl_Class.j1, cl_within_eq, Option.bind_some, decide_eq_true_eq]
  (repeat' split) <;> first | rfl | (exfalso; omega)

theorem cl_i0 (k : Nat) (a : Int) (b : Bool) : impl_Class.j0 (k + 2) a b = some (if b = true then 1 else if 48 ≤ a ∧ a ≤ 57 then 2 else if a = 39 ∨ a = 95 then 3 else if (12352 ≤ a ∧ a ≤ 12543) ∨ (19968 ≤ a ∧ a ≤ 40959) then 4 else 0) := by
  simp only [impl_Class.j0, cl_within_eq, Option.bind_some, decide_eq_true_eq, cl_i1]
  by_cases hb : b = true
  · simp [hb]
  · by_cases h1 : 48 ≤ a ∧ a ≤ 57
    · simp [hb, h1]
    · by_cases h39 : a = 39
      · simp [hb, h39]
      · by_cases h95 : a = 95
        · simp [hb, h95]
        · simp [hb, h1, h39, h95]

theorem cl_iff (k : Nat) (a : Int) : impl_Class.f k a = impl_Class.j0 k a (cl_letter a) := by
  unfold impl_Class.f
  simp only [cl_within_eq, Option.bind_some, decide_eq_true_eq]
  (repeat' split) <;> (congr 1; rw [Bool.eq_iff_iff]; simp [cl_letter]; try omega)


theorem cls_v (a : Int) : impl_Break.cls a = clsv a := by
  unfold impl_Break.cls
  rw [cl_iff, cl_i0 0]; rfl
theorem spec_cls (a : Int) : Ev (fun k => spec_Class.f k a) (impl_Break.cls a) := Ev.from 2 (fun k hk => by
  obtain ⟨k, rfl⟩ : ∃ m, k = m + 3 := ⟨k - 3, by omega⟩
  rw [cl_sf, cl_s0, cls_v]; rfl)
def inn (x : Int) : Bool := impl_Break.cls x == 1 || impl_Break.cls x == 2
theorem spec_inn (a : Int) : Ev (fun k => spec_l01Inner.f k a) (inn a) := by
  refine Ev.congr (f := fun k => (spec_Class.f k a).bind fun t => if t = 1 then some true else some (t == 2)) (fun k => rfl) (Ev.bind (spec_cls a) ?_)
  unfold inn
  by_cases h : impl_Break.cls a = 1
  · rw [h]; exact Ev.pos rfl (Ev.now _)
  · rw [beq_eq_false_iff_ne.2 h, Bool.false_or]; exact Ev.neg h (Ev.now _)
theorem sol_in (R : List Int) (i : Nat) (h : i < R.length) : impl_Break.sol R (i : Int) = inn (rd R (i : Int)) := by
  unfold impl_Break.sol inn
  rw [decide_eq_true (show (0 : Int) ≤ (i : Int) by omega), decide_eq_true (show (i : Int) < (R.length : Int) by omega)]; rfl
theorem sol_out (R : List Int) (x : Int) (h : ¬ x < (R.length : Int)) : impl_Break.sol R x = false := by
  unfold impl_Break.sol
  rw [decide_eq_false h, Bool.and_false, Bool.false_and]
theorem cond_out (R : List Int) (x : Int) (h : ¬ x < (R.length : Int)) : impl_Break.cond R x = false := by
  unfold impl_Break.cond
  rw [sol_out R x h, decide_eq_false h]; simp
theorem wn1 (i : Nat) (h : i ≤ 281474976710656) : wrap64 ((i : Int) + 1) = ((i + 1 : Nat) : Int) := by rw [w64 (by omega) (by omega)]; omega
theorem runEnd_ok2 (R : List Int) (n : Nat) : ∀ j, j ≤ R.length → j ≤ impl_Break.runEnd R n j ∧ impl_Break.runEnd R n j ≤ R.length := by
  induction n with
  | zero => intro j hj; exact ⟨Nat.le_refl _, hj⟩
  | succ n ih =>
    intro j hj
    rw [impl_Break.runEnd]
    by_cases c : impl_Break.cond R (j : Int) = true
    · rw [if_pos c]
      have hlt : j < R.length := by
        unfold impl_Break.cond impl_Break.sol at c
        by_cases h : j < R.length
        · exact h
        · have e : decide ((j : Int) < (R.length : Int)) = false := decide_eq_false (by omega)
          rw [e] at c
          simp at c
      have := ih (j + 1) (by omega)
      omega
    · rw [if_neg c]; exact ⟨Nat.le_refl _, hj⟩
theorem run_l1 (R : List Int) (out : List S53) (p : Int) (i : Nat) (hi : i < R.length) (h4 : impl_Break.cls (rd R (i : Int)) ≠ 4) (hn : R.length ≤ 65536) (r : List S53 × Int) (n : Nat) :
    ∀ j : Nat, i < j → j ≤ R.length → R.length ≤ j + n → Ev (fun k => spec_Break.j3 k R out p (i : Int) ((impl_Break.runEnd R n j : Nat) : Int)) r → Ev (fun k => spec_Break.l1 k R out p (i : Int) (j : Int)) r := by
  have fin : ∀ j : Nat, j = R.length → Ev (fun k => spec_Break.j3 k R out p (i : Int) (j : Int)) r → Ev (fun k => spec_Break.l1 k R out p (i : Int) (j : Int)) r := by
    intro j hj h
    exact Ev.step (fun k => by rw [spec_Break.l1, if_neg (by omega)]) h
  induction n with
  | zero =>
    intro j h1 h2 h3 h
    exact fin j (by omega) h
  | succ n ih =>
    intro j h1 h2 h3 h
    rw [impl_Break.runEnd] at h
    by_cases hj : j < R.length
    · have go : impl_Break.cond R (j : Int) = true → Ev (fun k => spec_Break.l1 k R out p (i : Int) (wrap64 ((j : Int) + 1))) r := by
        intro hc
        rw [if_pos hc] at h
        rw [wn1 j (by omega)]
        exact ih (j + 1) (by omega) (by omega) (by omega) h
      have stop : impl_Break.cond R (j : Int) = false → Ev (fun k => spec_Break.j3 k R out p (i : Int) (j : Int)) r := by
        intro hc
        rwa [if_neg (by rw [hc]; exact Bool.false_ne_true)] at h
      clear h ih fin
      unfold impl_Break.cond at go stop
      rw [sol_in R j hj, decide_eq_true (show (j : Int) < (R.length : Int) by omega), Bool.true_and] at go stop
      refine Ev.step (fun k => by rw [spec_Break.l1, if_pos (by omega), if_pos (by omega), if_pos (by omega), if_pos (by omega)]) ?_
      refine Ev.bind (spec_cls _) (Ev.neg h4 (Ev.pos (by omega) (Ev.bind (spec_inn _) ?_)))
      by_cases a : inn (rd R (j : Int)) = true
      · rw [a] at go ⊢
        exact Ev.pos rfl (go rfl)
      · have a' := Bool.eq_false_iff.2 a
        rw [a'] at go stop ⊢
        rw [Bool.false_or] at go stop
        refine Ev.neg Bool.false_ne_true (Ev.pos (by omega) (Ev.bind (spec_cls _) ?_))
        by_cases c : impl_Break.cls (rd R (j : Int)) = 3
        · rw [c] at go stop ⊢
          obtain ⟨j, rfl⟩ : ∃ m, j = m + 1 := ⟨j - 1, by omega⟩
          have e1 : wrap64 (((j + 1 : Nat) : Int) - 1) = (j : Int) := by rw [w64 (by omega) (by omega)]; omega
          have e2 : ((j + 1 : Nat) : Int) - 1 = (j : Int) := by omega
          rw [e2, sol_in R j (by omega)] at go stop
          rw [e1]
          refine Ev.pos rfl (Ev.pos (by omega) (Ev.pos (by omega) (Ev.bind (spec_inn _) ?_)))
          by_cases b : inn (rd R (j : Int)) = true
          · rw [b] at go stop ⊢
            rw [wn1 (j + 1) (by omega)] at go ⊢
            have e3 : ((j + 1 : Nat) : Int) + 1 = ((j + 1 + 1 : Nat) : Int) := rfl
            rw [e3] at go stop
            refine Ev.pos rfl ?_
            by_cases d : j + 1 + 1 < R.length
            · rw [sol_in R _ d] at go stop
              refine Ev.pos (by omega) (Ev.pos (by omega) (Ev.bind (spec_inn _) ?_))
              by_cases f : inn (rd R ((j + 1 + 1 : Nat) : Int)) = true
              · rw [f] at go ⊢
                exact Ev.pos rfl (go rfl)
              · have f' := Bool.eq_false_iff.2 f
                rw [f'] at stop ⊢
                exact Ev.neg Bool.false_ne_true (stop rfl)
            · rw [sol_out R _ (by omega)] at stop
              exact Ev.neg (by omega) (stop rfl)
          · have b' := Bool.eq_false_iff.2 b
            rw [b'] at stop ⊢
            exact Ev.neg Bool.false_ne_true (stop (by simp))
        · rw [beq_eq_false_iff_ne.2 c] at stop
          exact Ev.neg c (stop rfl)
    · rw [if_neg (by rw [cond_out R _ (by omega)]; exact Bool.false_ne_true)] at h
      exact fin j (by omega) h
theorem toks_len (s : ByteArray) (R AT : List Int) (n : Nat) : ∀ i out, out.length ≤ (impl_Break.toks s R AT n i out).length := by
  induction n with
  | zero => intro i out; exact Nat.le_refl _
  | succ n ih =>
    intro i out
    rw [impl_Break.toks]
    split
    · split
      · refine Nat.le_trans ?_ (ih _ _); simp
      · split
        · refine Nat.le_trans ?_ (ih _ _); simp
        · exact ih _ _
    · exact Nat.le_refl _
def finB (l : List S53) : List S53 × Int := if 8192 < l.length then ([], 11) else (l, 0)
/-- What is known of the characters R of the text s and of their places AT. -/
structure TX (s : ByteArray) (R AT : List Int) : Prop where
  len : R.length ≤ 65536
  ch : ∀ i, i < R.length → chOK (R.getD i 0) = true
  at_ : ∀ i, i ≤ R.length → rd AT (i : Int) = ((ebs (R.take i)).length : Int)
  by_ : bytesOf s = ebs R
theorem TX.tok {s : ByteArray} {R AT : List Int} (h : TX s R AT) (n i j : Nat) (hij : i ≤ j) (hj : j ≤ R.length) : impl_Break.tok s n (rd AT (i : Int)) (rd AT (j : Int)) = ⟨strOfNums (ebs ((R.take j).drop i)), (n : Int), ((ebs (R.take i)).length : Int), ((ebs (R.take j)).length : Int)⟩ := by
  unfold impl_Break.tok
  rw [h.at_ i (by omega), h.at_ j hj, cut_bytes, Int.toNat_natCast, Int.toNat_natCast, h.by_, (ebs_cut R i j hij hj).1]
theorem getD_mid (R : List Int) (i j a : Nat) (h : a < ((R.take j).drop i).length) : ((R.take j).drop i).getD a 0 = R.getD (i + a) 0 ∧ i + a < R.length := by
  rw [List.length_drop, List.length_take] at h
  rw [List.getD_eq_getElem?_getD, List.getElem?_drop, List.getElem?_take, if_pos (by omega), ← List.getD_eq_getElem?_getD]
  exact ⟨rfl, by omega⟩
theorem TX.enc {s : ByteArray} {R AT : List Int} (h : TX s R AT) (i j : Nat) : Ev (fun k => spec_l01Encode.f k ((R.take j).drop i)) (strOfNums (ebs ((R.take j).drop i))) := by
  have hl : ((R.take j).drop i).length ≤ R.length := by rw [List.length_drop, List.length_take]; omega
  refine Ev.from ((R.take j).drop i).length (fun k hk => l01Encode_eq _ (by have := h.len; omega) ?_ k hk)
  intro a ha
  obtain ⟨g1, g2⟩ := getD_mid R i j a ha
  rw [g1]; exact h.ch _ g2
theorem push_j3 {s : ByteArray} {R AT : List Int} (h : TX s R AT) (out : List S53) (i m : Nat) (him : i < m) (hm : m ≤ R.length) (ho : out.length ≤ 8192) (r : List S53 × Int)
    (k1 : 8192 < out.length + 1 → r = ([], 11))
    (k2 : ¬ 8192 < out.length + 1 → Ev (fun k => spec_Break.l0 k R (out ++ [impl_Break.tok s out.length (rd AT (i : Int)) (rd AT (m : Int))]) ((ebs (R.take m)).length : Int) (m : Int)) r) :
    Ev (fun k => spec_Break.j3 k R out ((ebs (R.take i)).length : Int) (i : Int) (m : Int)) r := by
  have hn := h.len
  rw [h.tok out.length i m (by omega) hm] at k2
  refine Ev.step (fun k => by rw [spec_Break.j3, if_neg (by omega), if_pos (by omega), if_pos (by omega), if_pos (by omega), Int.toNat_natCast, Int.toNat_natCast]) ?_
  refine Ev.bind (h.enc i m) ?_
  have e1 := (ebs_cut R i m (by omega) hm).2
  have e2 := ebs_length (R.take m)
  have e3 : (R.take m).length ≤ m := List.length_take_le _ _
  have e4 : wrap64 (((ebs (R.take i)).length : Int) + ((strOfNums (ebs ((R.take m).drop i))).size : Int)) = ((ebs (R.take m)).length : Int) := by
    rw [size_ofNums, w64 (by omega) (by omega)]; omega
  rw [e4]
  refine Ev.pos (by omega) ?_
  simp only [Option.bind_some]
  by_cases c : 8192 < out.length + 1
  · refine Ev.pos (by simp; omega) ?_
    rw [k1 c]; exact Ev.now _
  · refine Ev.neg (by simp; omega) ?_
    exact k2 c
theorem spec_toks {s : ByteArray} {R AT : List Int} (h : TX s R AT) (n : Nat) : ∀ (i : Nat) (out : List S53), R.length ≤ i + n → i ≤ R.length → out.length ≤ 8192 →
    Ev (fun k => spec_Break.l0 k R out ((ebs (R.take i)).length : Int) (i : Int)) (finB (impl_Break.toks s R AT n i out)) := by
  have hn := h.len
  have fin : ∀ (i : Nat) (out : List S53), i = R.length → out.length ≤ 8192 → Ev (fun k => spec_Break.l0 k R out ((ebs (R.take i)).length : Int) (i : Int)) (finB out) := by
    intro i out hi ho
    unfold finB
    rw [if_neg (by omega)]
    exact Ev.step (fun k => by rw [spec_Break.l0, if_neg (by omega)]) (Ev.now _)
  induction n with
  | zero => intro i out h1 h2 h3; exact fin i out (by omega) h3
  | succ n ih =>
    intro i out h1 h2 h3
    rw [impl_Break.toks]
    by_cases hi : i < R.length
    · rw [if_pos hi]
      have many : ∀ (m : Nat) (t : S53), 8192 < out.length + 1 → finB (impl_Break.toks s R AT n m (out ++ [t])) = ([], 11) := by
        intro m t hm
        have := toks_len s R AT n m (out ++ [t])
        unfold finB
        rw [if_pos (by rw [List.length_append] at this; simp at this; omega)]
      refine Ev.step (fun k => by rw [spec_Break.l0, if_pos (by omega), if_pos (by omega)]) ?_
      refine Ev.bind (spec_cls _) ?_
      by_cases c : impl_Break.cls (rd R (i : Int)) = 4
      · rw [if_pos c]
        refine Ev.pos c ?_
        rw [wn1 i (by omega)]
        have P := push_j3 h out i (i + 1) (by omega) (by omega) h3 (finB (impl_Break.toks s R AT n (i + 1) (out ++ [impl_Break.tok s out.length (rd AT (i : Int)) (rd AT ((i + 1 : Nat) : Int))]))) (many _ _) (fun hc => ih (i + 1) _ (by omega) (by omega) (by simp; omega))
        refine Ev.step (fun k => by rw [spec_Break.j1]) ?_
        by_cases d : i + 1 < R.length
        · refine Ev.step (fun k => by rw [spec_Break.l1, if_pos (by omega), if_pos (by omega), if_pos (by omega), if_pos (by omega)]) ?_
          exact Ev.bind (spec_cls _) (Ev.pos c P)
        · exact Ev.step (fun k => by rw [spec_Break.l1, if_neg (by omega)]) P
      · rw [if_neg c]
        refine Ev.neg c (Ev.step (fun k => by rw [spec_Break.j1]) ?_)
        refine Ev.step (fun k => by rw [spec_Break.l1, if_pos (by omega), if_pos (by omega), if_pos (by omega), if_pos (by omega)]) ?_
        refine Ev.bind (spec_cls _) (Ev.neg c (Ev.pos (by omega) (Ev.bind (spec_inn _) ?_)))
        rw [sol_in R i hi]
        by_cases a : inn (rd R (i : Int)) = true
        · rw [if_pos a]
          refine Ev.pos a ?_
          rw [wn1 i (by omega)]
          have hre := runEnd_ok2 R R.length (i + 1) (by omega)
          exact run_l1 R out _ i hi c hn _ R.length (i + 1) (by omega) (by omega) (by omega)
            (push_j3 h out i _ (by omega) hre.2 h3 _ (many _ _) (fun hc => ih _ _ (by omega) hre.2 (by simp; omega)))
        · rw [if_neg a]
          refine Ev.neg a ?_
          have e := bytes_eq _ (h.ch i hi)
          rw [← rd_nat] at e
          have hb := eb_length (rd R (i : Int))
          have e2 := ebs_length (R.take (i + 1))
          have e3 : (R.take (i + 1)).length ≤ i + 1 := List.length_take_le _ _
          have e1 : (ebs (R.take (i + 1))).length = (ebs (R.take i)).length + (eb (rd R (i : Int))).length := by rw [ebs_take R i hi, List.length_append, rd_nat]
          have e4 : wrap64 (((ebs (R.take i)).length : Int) + ((eb (rd R (i : Int))).length : Int)) = ((ebs (R.take (i + 1))).length : Int) := by rw [w64 (by omega) (by omega)]; omega
          refine Ev.neg (by omega) ?_
          refine Ev.step (fun k => by rw [spec_Break.j3, if_pos rfl, if_pos (by omega), if_pos (by omega), e, Option.bind_some, e4, wn1 i (by omega)]) ?_
          exact ih (i + 1) out (by omega) (by omega) h3
    · rw [if_neg hi]; exact fin i out (by omega) h3
theorem poss_at (s : ByteArray) (fuel : Nat) : ∀ pos, pos ≤ s.size → s.size ≤ pos + fuel → validFrom s fuel pos = true → ∀ i, i ≤ (impl_Decode.runes s fuel pos).length → (impl_Break.poss s fuel pos ++ [(s.size : Int)]).getD i 0 = (pos : Int) + ((ebs ((impl_Decode.runes s fuel pos).take i)).length : Int) := by
  induction fuel with
  | zero =>
    intro pos h1 h2 _ i hi
    rw [impl_Decode.runes] at hi ⊢
    obtain rfl : i = 0 := by simpa using hi
    rw [impl_Break.poss]
    simp [ebs]; omega
  | succ n ih =>
    intro pos h1 h2 hv i hi
    rw [validFrom] at hv
    rw [impl_Decode.runes] at hi ⊢
    rw [impl_Break.poss]
    by_cases h : pos < s.size
    · rw [if_pos h] at hv hi ⊢
      rw [if_pos h]
      by_cases hb : badAt s pos = true
      · rw [if_pos hb] at hv; cases hv
      · rw [if_neg hb] at hv
        obtain ⟨_, g2, g3⟩ := good_step s pos h hb
        have hw := Lib.width_pos s pos
        cases i with
        | zero => simp [ebs]
        | succ i =>
          rw [List.length_cons] at hi
          rw [List.cons_append, List.getD_cons_succ, List.take_succ_cons, ebs_cons, List.length_append, ih _ g3 (by omega) hv i (by omega), g2]
          omega
    · rw [if_neg h] at hi ⊢
      rw [if_neg h]
      obtain rfl : i = 0 := by simpa using hi
      simp [ebs]; omega
theorem TX_of (s : ByteArray) (hz : s.size ≤ 65536) (h : Lib.validD s.data.toList = true) : TX s (impl_Decode.runes s s.size 0) (impl_Break.poss s s.size 0 ++ [(s.size : Int)]) := by
  have hv : validFrom s s.size 0 = true := by rw [← valid_all]; exact h
  have g := runes_good s s.size 0 (by omega) hv
  refine ⟨by have := runes_length s s.size 0; omega, fun i hi => g.1 _ ?_, fun i hi => ?_, text_back s h⟩
  · rw [List.getD_eq_getElem?_getD, List.getElem?_eq_getElem hi]; exact List.getElem_mem hi
  · rw [rd_nat, poss_at s s.size 0 (by omega) (by omega) hv i hi]; omega
def brTell (s : ByteArray) : List S53 × Int := if (s.size : Int) > 65536 then ([], 2) else if Lib.validD s.data.toList = true then finB (impl_Break.tl s) else ([], 3)
theorem impl_Break_eq (s : ByteArray) : impl_Break.f s = some (brTell s) := by
  unfold impl_Break.f brTell finB
  (repeat' split) <;> rfl
theorem spec_Break_eq (s : ByteArray) : Ev (fun k => spec_Break.f k s) (brTell s) := by
  have hd := spec_Decode_eq s
  unfold brTell spec_Break.f
  unfold decTell at hd
  by_cases hz : (s.size : Int) > 65536
  · rw [if_pos hz] at hd ⊢
    exact Ev.bind hd (Ev.neg (by decide) (Ev.now _))
  · rw [if_neg hz] at hd ⊢
    by_cases hv : Lib.validD s.data.toList = true
    · rw [if_pos hv] at hd ⊢
      refine Ev.bind hd (Ev.pos rfl ?_)
      have h := spec_toks (TX_of s (by omega) hv) (impl_Decode.runes s s.size 0).length 0 [] (by omega) (by omega) (by simp)
      exact h
    · rw [if_neg hv] at hd ⊢
      exact Ev.bind hd (Ev.neg (by decide) (Ev.now _))
theorem brTell_len (s : ByteArray) : (brTell s).1.length ≤ 8192 := by
  unfold brTell finB
  (repeat' split) <;> simp <;> omega

/-! ### Characters that are encoded are decoded again -/
theorem eb_byte (a : Int) (h : chOK a = true) : ∀ x ∈ eb a, 0 ≤ x ∧ x < 256 := by
  obtain ⟨h0, h1, _⟩ := (chOK_iff a).1 h
  unfold eb
  intro x hx
  (repeat' split at hx) <;> simp only [List.mem_cons, List.not_mem_nil, or_false] at hx <;> omega
theorem bytesOf_str (l : List Int) (h : ∀ x ∈ l, 0 ≤ x ∧ x < 256) : bytesOf (strOfNums l) = l := by
  unfold bytesOf
  show (l.map fun n => UInt8.ofNat n.toNat).map (fun b => (b.toNat : Int)) = l
  rw [List.map_map]
  conv => rhs; rw [← List.map_id l]
  refine List.map_congr_left (fun x hx => ?_)
  have := h x hx
  show (((UInt8.ofNat x.toNat).toNat : Nat) : Int) = x
  rw [UInt8.toNat_ofNat']
  omega
theorem decN_enc (m b0 b1 b2 b3 : Nat) (a : Int) (h : chOK a = true) (hl : (eb a).length ≤ m) (hb : ([(b0 : Int), (b1 : Int), (b2 : Int), (b3 : Int)] : List Int).take (eb a).length = eb a) : Lib.decodeN m b0 b1 b2 b3 = (a.toNat, (eb a).length) := by
  obtain ⟨h0, h1, h2⟩ := (chOK_iff a).1 h
  unfold eb at *
  by_cases c1 : a < 128
  · simp only [if_pos c1] at *
    simp only [List.length_cons, List.length_nil, List.take_succ_cons, List.take_zero, List.cons.injEq, and_true] at hb
    unfold Lib.decodeN
    rw [if_pos (by omega)]
    exact Prod.ext (by simp only; omega) rfl
  · simp only [if_neg c1] at *
    by_cases c2 : a < 2048
    · simp only [if_pos c2] at *
      simp only [List.length_cons, List.length_nil, List.take_succ_cons, List.take_zero, List.cons.injEq, and_true] at hb hl
      obtain ⟨e0, e1⟩ := hb
      unfold Lib.decodeN
      rw [if_neg (by omega), if_pos ⟨by omega, by omega, by omega⟩, if_pos (by omega)]
      exact Prod.ext (by simp only; omega) rfl
    · simp only [if_neg c2] at *
      by_cases c3 : a < 65536
      · simp only [if_pos c3] at *
        simp only [List.length_cons, List.length_nil, List.take_succ_cons, List.take_zero, List.cons.injEq, and_true] at hb hl
        obtain ⟨e0, e1, e2⟩ := hb
        unfold Lib.decodeN
        rw [if_neg (by omega), if_neg (by omega), if_pos ⟨by omega, ⟨by omega, by omega⟩, by omega, by omega⟩]
        have ev : b0 % 16 * 4096 + b1 % 64 * 64 + b2 % 64 = a.toNat := by omega
        rw [ev, if_pos (by omega)]; rfl
      · simp only [if_neg c3] at *
        simp only [List.length_cons, List.length_nil, List.take_succ_cons, List.take_zero, List.cons.injEq, and_true] at hb hl
        obtain ⟨e0, e1, e2, e3⟩ := hb
        unfold Lib.decodeN
        rw [if_neg (by omega), if_neg (by omega), if_neg (by omega), if_pos ⟨by omega, ⟨by omega, by omega⟩, ⟨by omega, by omega⟩, by omega, by omega⟩]
        have ev : b0 % 8 * 262144 + b1 % 64 * 4096 + b2 % 64 * 64 + b3 % 64 = a.toNat := by omega
        rw [ev, if_pos (by omega)]; rfl
theorem enc_step (s : ByteArray) (pos : Nat) (a : Int) (l : List Int) (h : chOK a = true) (hd : (bytesOf s).drop pos = eb a ++ l) : pos < s.size ∧ Utf8.decode s pos = (a.toNat, (eb a).length) ∧ ¬ badAt s pos = true ∧ (bytesOf s).drop (pos + (eb a).length) = l := by
  have hl := eb_length a
  have hsz := congrArg List.length hd
  rw [List.length_drop, bytesOf_length, List.length_append] at hsz
  have e : ∀ j, ((bytesOf s).drop pos).getD j 0 = ((s.get! (pos + j)).toNat : Int) := by
    intro j
    rw [← bytes_getD, List.getD_eq_getElem?_getD, List.getElem?_drop, ← List.getD_eq_getElem?_getD]
  have ht := take4 (eb a).length ((bytesOf s).drop pos) hl.2 (by rw [hd, List.length_append]; omega)
  rw [e, e, e, e, hd, List.take_left] at ht
  have hdec : Utf8.decode s pos = (a.toNat, (eb a).length) := by
    rw [Lib.decode_at]
    exact decN_enc _ _ _ _ _ a h (by omega) ht.symm
  refine ⟨by omega, hdec, ?_, ?_⟩
  · intro hb
    have hb := of_decide_eq_true hb
    rw [hdec] at hb
    simp only at hb
    have := eb_len a
    rw [hb.2] at this
    have h0 := ((chOK_iff a).1 h).1
    split at this
    · omega
    · split at this
      · omega
      · split at this <;> omega
  · rw [← List.drop_drop, hd, List.drop_left]
theorem enc_all (s : ByteArray) (M : List Int) : ∀ fuel pos, (∀ x ∈ M, chOK x = true) → (bytesOf s).drop pos = ebs M → s.size ≤ pos + fuel → validFrom s fuel pos = true ∧ impl_Decode.runes s fuel pos = M := by
  induction M with
  | nil =>
    intro fuel pos _ hd hs
    have hz := congrArg List.length hd
    rw [List.length_drop, bytesOf_length] at hz
    have hn : ¬ pos < s.size := by simp [ebs] at hz; omega
    cases fuel with
    | zero => exact ⟨rfl, rfl⟩
    | succ n => rw [validFrom, impl_Decode.runes, if_neg hn, if_neg hn]; exact ⟨rfl, rfl⟩
  | cons a M ih =>
    intro fuel pos hM hd hs
    rw [ebs_cons] at hd
    have ha := hM a (List.mem_cons_self ..)
    obtain ⟨g1, g2, g3, g4⟩ := enc_step s pos a _ ha hd
    have hl := eb_length a
    obtain ⟨n, rfl⟩ : ∃ n, fuel = n + 1 := ⟨fuel - 1, by omega⟩
    obtain ⟨i1, i2⟩ := ih n (pos + (eb a).length) (fun x hx => hM x (List.mem_cons_of_mem _ hx)) g4 (by omega)
    have h0 := ((chOK_iff a).1 ha).1
    rw [validFrom, impl_Decode.runes, if_pos g1, if_pos g1, if_neg g3, g2]
    refine ⟨i1, ?_⟩
    simp only
    rw [i2, Int.toNat_of_nonneg h0]
theorem dec_of (M : List Int) (hM : ∀ x ∈ M, chOK x = true) (hz : (ebs M).length ≤ 65536) : decTell (strOfNums (ebs M)) = (M, 0) := by
  have hb : bytesOf (strOfNums (ebs M)) = ebs M := bytesOf_str _ (fun x hx => by
    obtain ⟨a, ha, hx⟩ := List.mem_flatMap.1 hx
    exact eb_byte a (hM a ha) x hx)
  have hs := size_ofNums (ebs M)
  obtain ⟨g1, g2⟩ := enc_all (strOfNums (ebs M)) M (strOfNums (ebs M)).size 0 hM (by rw [List.drop_zero]; exact hb) (by omega)
  unfold decTell
  rw [if_neg (by omega), valid_all, g1, if_pos rfl, g2]

/-! ### The drawer of drawn inputs: what its bytes and numbers are -/
def BytesOK (s : List Int) : Prop := s.length ≤ 1048576 ∧ ∀ i, i < s.length → 0 ≤ s.getD i 0 ∧ s.getD i 0 ≤ 255
def SeedOK (q : Int) : Prop := 0 ≤ q ∧ q < 2147483648
theorem src_byte (s : List Int) (hs : BytesOK s) (at_ q : Int) (h0 : 0 ≤ at_) (h1 : at_ ≤ 1000000000000) (hq : SeedOK q) :
    ∃ v q', spec_l01Src_byte.f s at_ q = some (v, at_ + 1, q') ∧ 0 ≤ v ∧ v ≤ 255 ∧ SeedOK q' := by
  obtain ⟨q0, q1⟩ := hq
  have e1 : Aside0 (wrap64 (at_ + 1) = at_ + 1) := ⟨w64 (by omega) (by omega)⟩
  have e2 : Aside0 (wrap64 (at_ + 1 - 1) = at_) := ⟨by rw [w64 (by omega) (by omega)]; omega⟩
  have hl := hs.1
  unfold spec_l01Src_byte.f
  rw [e1.out, e2.out]
  by_cases c : at_ + 1 ≤ (s.length : Int)
  · rw [if_pos c, if_pos h0, if_pos (by omega)]
    obtain ⟨n, rfl⟩ : ∃ n : Nat, at_ = n := ⟨at_.toNat, by omega⟩
    obtain ⟨b0, b1⟩ := hs.2 n (by omega)
    rw [rd_nat]
    generalize s.getD n 0 = b at *
    have e3 : Aside0 (wrap64 b = b) := ⟨w64 (by omega) (by omega)⟩
    have e4 : Aside0 (wrap64 (q * 31) = q * 31) := ⟨w64 (by omega) (by omega)⟩
    have e5 : Aside0 (wrap64 (q * 31 + b) = q * 31 + b) := ⟨w64 (by omega) (by omega)⟩
    have e6 : Aside0 (wrap64 (q * 31 + b + 7) = q * 31 + b + 7) := ⟨w64 (by omega) (by omega)⟩
    rw [e3.out, e4.out, e5.out, e6.out, Int.tmod_eq_emod_of_nonneg (by omega)]
    exact ⟨_, _, rfl, b0, b1, by omega, by omega⟩
  · rw [if_neg c]
    by_cases c2 : at_ + 1 > wrap64 (4000 + wrap64 (4 * (s.length : Int)))
    · rw [if_pos c2]; exact ⟨_, _, rfl, by omega, by omega, q0, q1⟩
    · rw [if_neg c2]
      have e4 : Aside0 (wrap64 (q * 1103515245) = q * 1103515245) := ⟨w64 (by omega) (by omega)⟩
      have e5 : Aside0 (wrap64 (q * 1103515245 + 12345) = q * 1103515245 + 12345) := ⟨w64 (by omega) (by omega)⟩
      rw [e4.out, e5.out, Int.tmod_eq_emod_of_nonneg (a := q * 1103515245 + 12345) (by omega)]
      generalize hz : (q * 1103515245 + 12345) % 2147483648 = z
      have z0 : 0 ≤ z := by omega
      have z1 : z < 2147483648 := by omega
      clear hz e4 e5 c2
      have e7 : Aside0 (wrap64 (Int.tdiv z 65536) = z / 65536) := ⟨by rw [Int.tdiv_eq_ediv_of_nonneg z0, w64 (by omega) (by omega)]⟩
      rw [e7.out, Int.tmod_eq_emod_of_nonneg (by omega)]
      exact ⟨_, _, rfl, by omega, by omega, z0, z1⟩
theorem src_next (s : List Int) (hs : BytesOK s) (at_ q n : Int) (h0 : 0 ≤ at_) (h1 : at_ ≤ 100000000000) (hq : SeedOK q) (hn : 1 ≤ n) :
    ∃ v a' q', spec_l01Src_next.f s at_ q n = some (v, a', q') ∧ 0 ≤ v ∧ v < n ∧ at_ ≤ a' ∧ a' ≤ at_ + 3 ∧ SeedOK q' := by
  unfold spec_l01Src_next.f
  by_cases c1 : n ≤ 1
  · rw [if_pos c1]; exact ⟨_, _, _, rfl, by omega, by omega, by omega, by omega, hq⟩
  · rw [if_neg c1]
    obtain ⟨v1, q1, e1, b1, d1, hq1⟩ := src_byte s hs at_ q h0 (by omega) hq
    rw [e1]
    by_cases c2 : n ≤ 256
    · rw [if_pos c2, Option.bind_some, if_neg (by omega)]
      simp only
      rw [Int.tmod_eq_emod_of_nonneg b1]
      exact ⟨_, _, _, rfl, Int.emod_nonneg _ (by omega), Int.emod_lt_of_pos _ (by omega), by omega, by omega, hq1⟩
    · obtain ⟨v2, q2, e2, b2, d2, hq2⟩ := src_byte s hs (at_ + 1) q1 (by omega) (by omega) hq1
      obtain ⟨v3, q3, e3, b3, d3, hq3⟩ := src_byte s hs (at_ + 1 + 1) q2 (by omega) (by omega) hq2
      rw [if_neg c2]
      simp only [Option.bind_some]
      rw [e2]
      simp only [Option.bind_some]
      rw [e3]
      simp only [Option.bind_some]
      rw [if_neg (by omega)]
      have w1 : Aside0 (wrap64 (v1 * 65536) = v1 * 65536) := ⟨w64 (by omega) (by omega)⟩
      have w2 : Aside0 (wrap64 (v2 * 256) = v2 * 256) := ⟨w64 (by omega) (by omega)⟩
      have w3 : Aside0 (wrap64 (v1 * 65536 + v2 * 256) = v1 * 65536 + v2 * 256) := ⟨w64 (by omega) (by omega)⟩
      have w4 : Aside0 (wrap64 (v1 * 65536 + v2 * 256 + v3) = v1 * 65536 + v2 * 256 + v3) := ⟨w64 (by omega) (by omega)⟩
      rw [w1.out, w2.out, w3.out, w4.out, Int.tmod_eq_emod_of_nonneg (by omega)]
      exact ⟨_, _, _, rfl, Int.emod_nonneg _ (by omega), Int.emod_lt_of_pos _ (by omega), by omega, by omega, hq3⟩
theorem src_start (l : List Int) (h : l.length ≤ 1048576) : ∃ q, spec_l01Source.f l = some (l, 0, q) ∧ SeedOK q := by
  unfold spec_l01Source.f
  exact ⟨_, rfl, by omega, by omega⟩

/-! ### A drawn word, a drawn number's text -/
theorem word_ex2 (s : List Int) (hs : BytesOK s) (at_ q : Int) (h0 : 0 ≤ at_) (h1 : at_ ≤ 10000000000) (hq : SeedOK q) :
    ∃ t a' q', spec_l01Src_word.f s at_ q = some (t, a', q') ∧ t.size ≤ 8 ∧ at_ ≤ a' ∧ a' ≤ at_ + 3 ∧ SeedOK q' := by
  unfold spec_l01Src_word.f
  rw [Option.bind_some]
  generalize hy : ([(⟨#[114, 117, 110]⟩ : ByteArray), (⟨#[114, 117, 110, 110, 105, 110, 103]⟩ : ByteArray), (⟨#[114, 117, 110, 115]⟩ : ByteArray), (⟨#[114, 97, 110]⟩ : ByteArray), (⟨#[99, 97, 116]⟩ : ByteArray), (⟨#[99, 97, 116, 115]⟩ : ByteArray), (⟨#[116, 104, 101]⟩ : ByteArray), (⟨#[111, 102]⟩ : ByteArray), (⟨#[104, 111, 117, 115, 101]⟩ : ByteArray), (⟨#[104, 111, 117, 115, 101, 115]⟩ : ByteArray), (⟨#[113, 117, 105, 99, 107]⟩ : ByteArray), (⟨#[102, 111, 120]⟩ : ByteArray), (⟨#[105, 116, 39, 115]⟩ : ByteArray), (⟨#[120, 95, 49]⟩ : ByteArray), (⟨#[195, 156, 98, 101, 114]⟩ : ByteArray), (⟨#[99, 97, 102, 195, 169]⟩ : ByteArray), (⟨#[67, 97, 116]⟩ : ByteArray), (⟨#[52, 50]⟩ : ByteArray), (⟨#[55]⟩ : ByteArray), (⟨#[208, 150, 97, 114]⟩ : ByteArray), (⟨#[228, 184, 173]⟩ : ByteArray), (⟨#[206, 169, 109, 101, 103, 97]⟩ : ByteArray), (⟨#[115, 116, 111, 112, 112, 101, 100]⟩ : ByteArray), (⟨#[113, 117, 105, 99, 107, 108, 121]⟩ : ByteArray), (⟨#[108, 97, 100, 105, 101, 115]⟩ : ByteArray)] : List ByteArray) = y
  have hz : ∀ x ∈ y, x.size ≤ 8 := by rw [← hy]; decide
  have hl : y.length = 25 := by rw [← hy]; rfl
  clear hy
  obtain ⟨v, a', q', e, b0, b1, b2, b3, hq'⟩ := src_next s hs at_ q (y.length : Int) h0 (by omega) hq (by omega)
  rw [e, Option.bind_some]
  simp only
  rw [if_pos b0, if_pos b1]
  refine ⟨_, _, _, rfl, ?_, by omega, b3, hq'⟩
  obtain ⟨i, rfl⟩ : ∃ i : Nat, v = i := ⟨v.toNat, by omega⟩
  have hi : i < y.length := by omega
  rw [rdOf, Int.toNat_natCast, List.getD_eq_getElem?_getD, List.getElem?_eq_getElem hi]
  exact hz _ (List.getElem_mem hi)

/-! ### One byte spoilt -/
theorem src_chance (s : List Int) (hs : BytesOK s) (at_ q n : Int) (h0 : 0 ≤ at_) (h1 : at_ ≤ 100000000000) (hq : SeedOK q) (hn : 1 ≤ n) :
    ∃ b a' q', spec_l01Src_chance.f s at_ q n = some (b, a', q') ∧ at_ ≤ a' ∧ a' ≤ at_ + 3 ∧ SeedOK q' := by
  obtain ⟨v, a', q', e, b0, b1, b2, b3, hq'⟩ := src_next s hs at_ q n h0 h1 hq hn
  unfold spec_l01Src_chance.f
  rw [e, Option.bind_some]
  exact ⟨_, _, _, rfl, b2, b3, hq'⟩
theorem strOfNums_size (l : List Int) : (strOfNums l).size = l.length := by simp [strOfNums, ByteArray.size]
theorem spoil_ex (s : List Int) (hs : BytesOK s) (at_ q : Int) (h0 : 0 ≤ at_) (h1 : at_ ≤ 1000000000) (hq : SeedOK q) (t : ByteArray) (ht : t.size ≤ 1000000) :
    ∃ u a' q', spec_l01Src_spoil.f s at_ q t = some (u, a', q') ∧ at_ ≤ a' ∧ a' ≤ at_ + 10 ∧ SeedOK q' := by
  obtain ⟨v1, a1, q1, e1, b1, b1', c1, c1', hq1⟩ := src_next s hs at_ q 3 h0 (by omega) hq (by omega)
  unfold spec_l01Src_spoil.f
  rw [if_pos (by omega), e1, Option.bind_some]
  simp only
  by_cases k0 : v1 = 0
  · rw [if_pos k0]
    obtain ⟨v2, q2, e2, _, _, hq2⟩ := src_byte s hs a1 q1 (by omega) (by omega) hq1
    rw [e2, Option.bind_some]
    exact ⟨_, _, _, rfl, by simp only; omega, by simp only; omega, hq2⟩
  · rw [if_neg k0]
    by_cases k1 : v1 = 1
    · rw [if_pos k1]
      by_cases hp : (0 : Int) < (t.size : Int)
      · rw [if_pos hp]
        obtain ⟨v2, a2, q2, e2, b2, b2', c2, c2', hq2⟩ := src_next s hs a1 q1 (t.size : Int) (by omega) (by omega) hq1 (by omega)
        rw [e2, Option.bind_some]
        simp only
        rw [if_pos b2, if_pos (by omega)]
        exact ⟨_, _, _, rfl, by omega, by omega, hq2⟩
      · rw [if_neg hp]
        exact ⟨_, _, _, rfl, by omega, by omega, hq1⟩
    · rw [if_neg k1]
      by_cases hp : (0 : Int) < (t.size : Int)
      · rw [if_pos hp]
        obtain ⟨v2, a2, q2, e2, b2, b2', c2, c2', hq2⟩ := src_next s hs a1 q1 (t.size : Int) (by omega) (by omega) hq1 (by omega)
        obtain ⟨v3, q3, e3, _, _, hq3⟩ := src_byte s hs a2 q2 (by omega) (by omega) hq2
        rw [e2, Option.bind_some]
        simp only
        rw [e3, Option.bind_some]
        simp only
        rw [if_pos b2, if_pos b2']
        exact ⟨_, _, _, rfl, by omega, by omega, hq3⟩
      · rw [if_neg hp]
        exact ⟨_, _, _, rfl, by omega, by omega, hq1⟩

/-! ### Folding twice -/
theorem out1_vals (x : Int) : out1 x = x ∨ out1 x = 97 ∨ out1 x = 99 ∨ out1 x = 101 ∨ out1 x = 105 ∨ out1 x = 110 ∨ out1 x = 111 ∨ out1 x = 117 ∨ out1 x = 121 := by
  unfold out1 out2 out3 out4 out5 out6
  (repeat' split) <;> simp
theorem foldv_fix (x : Int) (h1 : ¬ upper x = true) (h2 : ¬ (1024 ≤ x ∧ x ≤ 1039)) : foldv (out1 x) = out1 x := by
  rcases out1_vals x with e | e | e | e | e | e | e | e | e
  · rw [e]; unfold foldv; rw [if_neg h1, if_neg h2, e]
  all_goals rw [e]; rfl
theorem foldv_twice (a : Int) (h : chOK a = true) : foldv (foldv a) = foldv a := by
  obtain ⟨h0, h1, _⟩ := (chOK_iff a).1 h
  have e1 : wrap64 (a + 32) = a + 32 := w64 (by omega) (by omega)
  have e2 : wrap64 (a + 80) = a + 80 := w64 (by omega) (by omega)
  have e : foldv a = out1 (if upper a = true then a + 32 else if 1024 ≤ a ∧ a ≤ 1039 then a + 80 else a) := by unfold foldv; rw [e1, e2]
  rw [e]
  have key : ¬ upper (if upper a = true then a + 32 else if 1024 ≤ a ∧ a ≤ 1039 then a + 80 else a) = true ∧ ¬ (1024 ≤ (if upper a = true then a + 32 else if 1024 ≤ a ∧ a ≤ 1039 then a + 80 else a) ∧ (if upper a = true then a + 32 else if 1024 ≤ a ∧ a ≤ 1039 then a + 80 else a) ≤ 1039) := by
    by_cases u : upper a = true
    · rw [if_pos u]
      have u' := of_decide_eq_true u
      refine ⟨fun g => ?_, by omega⟩
      have g' := of_decide_eq_true g
      omega
    · rw [if_neg u]
      by_cases c : 1024 ≤ a ∧ a ≤ 1039
      · rw [if_pos c]
        refine ⟨fun g => ?_, by omega⟩
        have g' := of_decide_eq_true g
        omega
      · rw [if_neg c]; exact ⟨u, c⟩
  exact foldv_fix _ key.1 key.2
theorem fold_twice (s : ByteArray) (h : (decTell s).2 = 0) : foldTell s = (strOfNums (ebs ((decTell s).1.map foldv)), 0) ∧ foldTell (strOfNums (ebs ((decTell s).1.map foldv))) = (strOfNums (ebs ((decTell s).1.map foldv)), 0) := by
  obtain ⟨g1, g2, g3, g4, g5⟩ := decTell_good s h
  obtain ⟨f1, f2⟩ := folds_ok _ g4
  have hd := dec_of ((decTell s).1.map foldv) f1 (by omega)
  refine ⟨by unfold foldTell; rw [if_pos h], ?_⟩
  unfold foldTell
  rw [hd, if_pos rfl]
  simp only
  rw [List.map_map]
  congr 3
  refine List.map_congr_left (fun x hx => ?_)
  exact foldv_twice x (g4 x hx)
/-! ### The words -/
def quiet (x : Int) : Prop := impl_Break.cls x ≠ 1 ∧ impl_Break.cls x ≠ 2 ∧ impl_Break.cls x ≠ 4
theorem TX.size {s : ByteArray} {R AT : List Int} (h : TX s R AT) : (ebs R).length = s.size := by rw [← h.by_, bytesOf_length]
theorem TX.cut {s : ByteArray} {R AT : List Int} (h : TX s R AT) (b i : Nat) (hb : b ≤ i) (hi : i ≤ R.length) : s.extract (ebs (R.take b)).length (ebs (R.take i)).length = strOfNums (ebs ((R.take i).drop b)) := by
  rw [cut_bytes, h.by_, (ebs_cut R b i hb hi).1]
theorem gap_ev {s : ByteArray} {R AT : List Int} (h : TX s R AT) (hz : s.size ≤ 65536) (b i : Nat) (hb : b ≤ i) (hi : i ≤ R.length) (hq : ∀ c, b ≤ c → c < i → quiet (R.getD c 0)) : Ev (fun k => laws_gap.f k (s.extract (ebs (R.take b)).length (ebs (R.take i)).length)) true := by
  rw [h.cut b i hb hi]
  have hsz := h.size
  have hM : ∀ x ∈ (R.take i).drop b, chOK x = true := fun x hx => by
    obtain ⟨c, hc, rfl⟩ := List.getElem_of_mem (List.mem_of_mem_take (List.mem_of_mem_drop hx))
    have := h.ch c hc
    rwa [List.getD_eq_getElem?_getD, List.getElem?_eq_getElem hc] at this
  have hl : (ebs ((R.take i).drop b)).length ≤ 65536 := by
    have e1 := (ebs_cut R b i hb hi).2
    have e2 := congrArg (fun l => (ebs l).length) (List.take_append_drop i R)
    simp only [ebs_app, List.length_append] at e2
    omega
  have hd := spec_Decode_eq (strOfNums (ebs ((R.take i).drop b)))
  rw [dec_of _ hM hl] at hd
  have hml : ((R.take i).drop b).length = i - b := by rw [List.length_drop, List.length_take]; omega
  have hqm : ∀ c, c < ((R.take i).drop b).length → quiet (((R.take i).drop b).getD c 0) := fun c hc => by
    rw [(getD_mid R b i c hc).1]
    exact hq _ (by omega) (by omega)
  have hn : ((R.take i).drop b).length ≤ 65536 := by have := h.len; omega
  generalize (R.take i).drop b = M at *
  unfold laws_gap.f
  refine Ev.bind hd ?_
  simp only
  have key : ∀ d c, c + d = M.length → Ev (fun k => laws_gap.l0 k M 0 (c : Int)) true := by
    intro d
    induction d with
    | zero => intro c hc; exact Ev.step (f := fun _ => some true) (fun k => by rw [laws_gap.l0, if_neg (by omega)]; rfl) (Ev.now _)
    | succ d ih =>
      intro c hc
      obtain ⟨q1, q2, q4⟩ := hqm c (by omega)
      refine Ev.step (fun k => by rw [laws_gap.l0, if_pos (by omega), if_pos (by omega), rd_nat, wn1 c (by omega)]) ?_
      exact Ev.bind (spec_cls _) (Ev.neg q1 (Ev.neg q2 (Ev.neg q4 (ih (c + 1) (by omega)))))
  exact key M.length 0 (by omega)
theorem toks_pre (s : ByteArray) (R AT : List Int) (n : Nat) : ∀ i out, ∃ rest, impl_Break.toks s R AT n i out = out ++ rest := by
  induction n with
  | zero => intro i out; exact ⟨[], by rw [impl_Break.toks, List.append_nil]⟩
  | succ n ih =>
    intro i out
    rw [impl_Break.toks]
    split
    · split
      · obtain ⟨r, e⟩ := ih (i + 1) (out ++ [impl_Break.tok s out.length (rd AT (i : Int)) (rd AT ((i + 1 : Nat) : Int))])
        exact ⟨_, by rw [e, List.append_assoc]⟩
      · split
        · obtain ⟨r, e⟩ := ih (impl_Break.runEnd R R.length (i + 1)) (out ++ [impl_Break.tok s out.length (rd AT (i : Int)) (rd AT ((impl_Break.runEnd R R.length (i + 1) : Nat) : Int))])
          exact ⟨_, by rw [e, List.append_assoc]⟩
        · exact ih _ _
    · exact ⟨[], by rw [List.append_nil]⟩
theorem rdT_at (out rest : List S53) (t : S53) : rd_T53 (out ++ [t] ++ rest) (out.length : Int) = t := by
  unfold rd_T53
  rw [Int.toNat_natCast, List.getD_eq_getElem?_getD, List.append_assoc, List.getElem?_append_right (Nat.le_refl _), Nat.sub_self]; rfl
theorem ebs_le (R : List Int) (i j : Nat) (h : i ≤ j) (hj : j ≤ R.length) : (ebs (R.take i)).length ≤ (ebs (R.take j)).length := by
  have := (ebs_cut R i j h hj).2; omega
theorem word_step {s : ByteArray} {R AT : List Int} (h : TX s R AT) (hz : s.size ≤ 65536) (b i m : Nat) (out rest W : List S53) (hb : b ≤ i) (him : i < m) (hm : m ≤ R.length) (hq : ∀ c, b ≤ c → c < i → quiet (R.getD c 0))
    (hW : W = out ++ [impl_Break.tok s out.length (rd AT (i : Int)) (rd AT (m : Int))] ++ rest) (hl : W.length ≤ 65536)
    (k1 : Ev (fun k => laws_FnText.l0 k s W ((ebs (R.take m)).length : Int) ((out.length + 1 : Nat) : Int)) true) : Ev (fun k => laws_FnText.l0 k s W ((ebs (R.take b)).length : Int) (out.length : Int)) true := by
  have hr := rdT_at out rest (impl_Break.tok s out.length (rd AT (i : Int)) (rd AT (m : Int)))
  rw [← hW, h.tok out.length i m (by omega) hm] at hr
  have hlt : out.length < W.length := by rw [hW]; simp
  have l1 := ebs_le R b i hb (by omega)
  have l2 := (ebs_cut R i m (by omega) hm).2
  have l3 := (ebs_length ((R.take m).drop i)).1
  rw [List.length_drop, List.length_take] at l3
  have l4 := ebs_le R m R.length hm (by omega)
  rw [List.take_length, h.size] at l4
  clear hW
  refine Ev.step (fun k => by rw [laws_FnText.l0, hr, if_pos (by omega), if_pos (by omega), wn1 _ (by omega)]) ?_
  refine Ev.pos rfl (Ev.neg (by simp only; omega) (Ev.neg (by simp only; omega) (Ev.neg (by simp only; omega) (Ev.pos (by simp only; omega) (Ev.pos (by simp only; omega) (Ev.pos (by simp only; omega) ?_))))))
  simp only [Int.toNat_natCast]
  refine Ev.pos (by rw [h.cut i m (by omega) hm]) (Ev.pos (by omega) (Ev.pos (by omega) (Ev.pos (by omega) ?_)))
  exact Ev.bind (gap_ev h hz b i hb (by omega) hq) (Ev.pos rfl k1)
theorem words_ev {s : ByteArray} {R AT : List Int} (h : TX s R AT) (hz : s.size ≤ 65536) (n : Nat) : ∀ (b i : Nat) (out : List S53), b ≤ i → i ≤ R.length → R.length ≤ i + n → (∀ c, b ≤ c → c < i → quiet (R.getD c 0)) → (impl_Break.toks s R AT n i out).length ≤ 65536 →
    Ev (fun k => laws_FnText.l0 k s (impl_Break.toks s R AT n i out) ((ebs (R.take b)).length : Int) (out.length : Int)) true := by
  have fin : ∀ (b : Nat) (out : List S53), b ≤ R.length → (∀ c, b ≤ c → c < R.length → quiet (R.getD c 0)) → Ev (fun k => laws_FnText.l0 k s out ((ebs (R.take b)).length : Int) (out.length : Int)) true := by
    intro b out hb hq
    have l4 := ebs_le R b R.length hb (by omega)
    have g := gap_ev h hz b R.length hb (by omega) hq
    rw [List.take_length, h.size] at l4 g
    refine Ev.step (fun k => by rw [laws_FnText.l0, if_neg (by omega)]) ?_
    refine Ev.pos (by omega) (Ev.pos (by omega) ?_)
    simp only [Int.toNat_natCast]
    exact Ev.bind g (Ev.now _)
  induction n with
  | zero =>
    intro b i out hb hi hn hq _
    obtain rfl : i = R.length := by omega
    exact fin b out hb hq
  | succ n ih =>
    intro b i out hb hi hn hq hl
    rw [impl_Break.toks] at hl ⊢
    by_cases c : i < R.length
    · rw [if_pos c] at hl ⊢
      by_cases c4 : impl_Break.cls (rd R (i : Int)) = 4
      · rw [if_pos c4] at hl ⊢
        obtain ⟨rest, e⟩ := toks_pre s R AT n (i + 1) (out ++ [impl_Break.tok s out.length (rd AT (i : Int)) (rd AT ((i + 1 : Nat) : Int))])
        have k1 := ih (i + 1) (i + 1) _ (by omega) (by omega) (by omega) (fun c h1 h2 => by omega) hl
        refine word_step h hz b i (i + 1) out rest _ hb (by omega) (by omega) hq e hl ?_
        rw [List.length_append] at k1
        exact k1
      · rw [if_neg c4] at hl ⊢
        by_cases cs : impl_Break.sol R (i : Int) = true
        · rw [if_pos cs] at hl ⊢
          have hre := runEnd_ok2 R R.length (i + 1) (by omega)
          obtain ⟨rest, e⟩ := toks_pre s R AT n (impl_Break.runEnd R R.length (i + 1)) (out ++ [impl_Break.tok s out.length (rd AT (i : Int)) (rd AT ((impl_Break.runEnd R R.length (i + 1) : Nat) : Int))])
          have k1 := ih _ _ _ (Nat.le_refl _) hre.2 (by omega) (fun c h1 h2 => by omega) hl
          refine word_step h hz b i _ out rest _ hb (by omega) hre.2 hq e hl ?_
          rw [List.length_append] at k1
          exact k1
        · rw [if_neg cs] at hl ⊢
          refine ih b (i + 1) out (by omega) (by omega) (by omega) (fun z h1 h2 => ?_) hl
          by_cases e : z = i
          · subst e
            rw [sol_in R z c] at cs
            unfold inn at cs
            rw [rd_nat] at cs c4
            refine ⟨fun q => cs (by rw [q]; rfl), fun q => cs (by rw [q]; rfl), c4⟩
          · exact hq z h1 (by omega)
    · rw [if_neg c] at hl ⊢
      obtain rfl : i = R.length := by omega
      exact fin b out hb hq
/-! ### What is drawn -/
theorem rdO_size (y : List ByteArray) (v : Int) (n : Nat) (hz : ∀ x ∈ y, x.size ≤ n) (h0 : 0 ≤ v) (h1 : v < (y.length : Int)) : (rdOf ByteArray.empty y v).size ≤ n := by
  obtain ⟨i, rfl⟩ : ∃ i : Nat, v = i := ⟨v.toNat, by omega⟩
  rw [rdOf, Int.toNat_natCast, List.getD_eq_getElem?_getD, List.getElem?_eq_getElem (show i < y.length by omega)]
  exact hz _ (List.getElem_mem _)
theorem prose_loop (s : List Int) (hs : BytesOK s) (c : Nat) : ∀ (x : ByteArray) (a q : Int), c ≤ 100 → x.size + 11 * c ≤ 10000 → 0 ≤ a → a + 6 * (c : Int) ≤ 1000000 → SeedOK q → ∃ (t : ByteArray) (a' q' : Int), Ev (fun k => spec_l01Src_prose.l0 k (c : Int) x s a q) (t, a', q') ∧ t.size ≤ x.size + 11 * c ∧ a ≤ a' ∧ a' ≤ a + 6 * (c : Int) ∧ SeedOK q' := by
  induction c with
  | zero =>
    intro x a q _ hx ha hac hq
    exact ⟨x, a, q, Ev.step (fun k => by rw [spec_l01Src_prose.l0, if_neg (by omega)]) (Ev.now _), by omega, by omega, by omega, hq⟩
  | succ c ih =>
    intro x a q hc hx ha hac hq
    generalize hy : ([(⟨#[32]⟩ : ByteArray), (⟨#[32]⟩ : ByteArray), (⟨#[32]⟩ : ByteArray), (⟨#[44, 32]⟩ : ByteArray), (⟨#[46, 10]⟩ : ByteArray), (⟨#[39]⟩ : ByteArray), (⟨#[45]⟩ : ByteArray), (⟨#[95, 32]⟩ : ByteArray), (⟨#[32, 32]⟩ : ByteArray), (⟨#[228, 184, 173]⟩ : ByteArray)] : List ByteArray) = y
    have hz : ∀ x ∈ y, x.size ≤ 3 := by rw [← hy]; decide
    have hl : y.length = 10 := by rw [← hy]; rfl
    obtain ⟨t1, a1, q1, e1, z1, b1, c1, hq1⟩ := word_ex2 s hs a q ha (by omega) hq
    obtain ⟨v2, a2, q2, e2, b2, b2', c2, c2', hq2⟩ := src_next s hs a1 q1 10 (by omega) (by omega) hq1 (by omega)
    have hw := rdO_size y v2 3 hz b2 (by omega)
    obtain ⟨t, a', q', hr, ht, g1, g2, hq'⟩ := ih ((x ++ t1) ++ rdOf ByteArray.empty y v2) a2 q2 (by omega) (by rw [ByteArray.size_append, ByteArray.size_append]; omega) (by omega) (by omega) hq2
    rw [ByteArray.size_append, ByteArray.size_append] at ht
    have ew : wrap64 (((c + 1 : Nat) : Int) - 1) = (c : Int) := by rw [w64 (by omega) (by omega)]; omega
    refine ⟨t, a', q', Ev.step (fun k => by rw [spec_l01Src_prose.l0, ew, hy]) ?_, by omega, by omega, by omega, hq'⟩
    refine Ev.pos (by omega) ?_
    refine Ev.bind (Ev.ofEq e1) ?_
    refine Ev.pos (by simp only; omega) ?_
    refine Ev.bind (Ev.now _) ?_
    refine Ev.bind (Ev.ofEq e2) ?_
    exact Ev.pos (by simp only; omega) (Ev.pos (by simp only; omega) (Ev.pos (by simp only; rw [ByteArray.size_append]; omega) hr))
theorem rep_loop (t : ByteArray) (ht : t.size = 2) (n : Nat) (hn : n ≤ 1000000) (d : Nat) : ∀ (i : Nat) (x : List Int), i + d = n → x.length = 2 * i → ∃ r : ByteArray, Ev (fun k => spec_l01Repeat.l0 k t (n : Int) x (i : Int)) r := by
  induction d with
  | zero =>
    intro i x hi hx
    exact ⟨_, Ev.step (fun k => by rw [spec_l01Repeat.l0, if_neg (by omega)]) (Ev.now _)⟩
  | succ d ih =>
    intro i x hi hx
    obtain ⟨r, hr⟩ := ih (i + 1) (x ++ bytesOf t) (by omega) (by rw [List.length_append, bytesOf_length]; omega)
    exact ⟨r, Ev.step (fun k => by rw [spec_l01Repeat.l0, if_pos (by omega), if_pos (by omega), wn1 i (by omega)]) hr⟩
theorem rep_ex (n : Int) (h0 : 0 ≤ n) (h1 : n ≤ 1000000) : ∃ r, Ev (fun k => spec_l01Repeat.f k (⟨#[97, 32]⟩ : ByteArray) n) r := by
  obtain ⟨m, rfl⟩ : ∃ m : Nat, n = m := ⟨n.toNat, by omega⟩
  exact rep_loop (⟨#[97, 32]⟩ : ByteArray) rfl m (by omega) m 0 [] (by omega) rfl
theorem draw1_ex (l : List Int) (hs : BytesOK l) : ∃ t : ByteArray, Ev (fun k => spec_l01Draw.f k l) t := by
  obtain ⟨q0, e0, hq0⟩ := src_start l hs.1
  have hsz : ∃ z : Int, 1 ≤ z ∧ z ≤ 40 ∧ spec_l01Src_size.f l 0 q0 40 = some (z, 0, q0) := by
    have hl := hs.1
    refine ⟨_, ?_, ?_, rfl⟩
    · have w1 : wrap64 ((l.length : Int) / 12) = (l.length : Int) / 12 := w64 (by omega) (by omega)
      have w2 : wrap64 (1 + (l.length : Int) / 12) = 1 + (l.length : Int) / 12 := w64 (by omega) (by omega)
      rw [w1, w2]; unfold mn; split <;> omega
    · unfold mn; split <;> omega
  obtain ⟨z, z1, z2, ez⟩ := hsz
  have wz : wrap64 (z + 1) = z + 1 := w64 (by omega) (by omega)
  obtain ⟨v1, a1, q1, e1, b1, b1', c1, c1', hq1⟩ := src_next l hs 0 q0 (z + 1) (by omega) (by omega) hq0 (by omega)
  obtain ⟨n, rfl⟩ : ∃ n : Nat, v1 = n := ⟨v1.toNat, by omega⟩
  obtain ⟨t, a2, q2, h2, ht, c2, c2', hq2⟩ := prose_loop l hs n (⟨#[]⟩ : ByteArray) a1 q1 (by omega) (by show 0 + 11 * n ≤ 10000; omega) (by omega) (by omega) hq1
  have ht' : t.size ≤ 1000 := by
    have : (⟨#[]⟩ : ByteArray).size = 0 := rfl
    omega
  obtain ⟨v3, a3, q3, e3, b3, b3', c3, c3', hq3⟩ := src_next l hs a2 q2 12 (by omega) (by omega) hq2 (by omega)
  have hj : ∀ b : Bool, ∃ r : ByteArray, Ev (fun k => spec_l01Draw.j0 k t v3 b l a3 q3) r := by
    intro b
    cases b with
    | true =>
      obtain ⟨u, a4, q4, e4, _⟩ := spoil_ex l hs a3 q3 (by omega) (by omega) hq3 t (by omega)
      exact ⟨u, Ev.step (fun k => by rw [spec_l01Draw.j0]) (Ev.pos rfl (Ev.bind (Ev.ofEq e4) (Ev.now _)))⟩
    | false =>
      by_cases k2 : v3 = 2
      · obtain ⟨w1, p1, f1, _, _, g1⟩ := src_byte l hs a3 q3 (by omega) (by omega) hq3
        obtain ⟨w2, a5, p2, f2, _, _, d2, d2', g2⟩ := src_next l hs (a3 + 1) p1 64 (by omega) (by omega) g1 (by omega)
        obtain ⟨w3, a6, p3, f3, _, _, d3, d3', g3⟩ := src_next l hs a5 p2 64 (by omega) (by omega) g2 (by omega)
        obtain ⟨w4, a7, p4, f4, _, _, d4, d4', g4⟩ := src_next l hs a6 p3 64 (by omega) (by omega) g3 (by omega)
        refine ⟨_, Ev.step (fun k => by rw [spec_l01Draw.j0]) (Ev.neg Bool.false_ne_true (Ev.pos k2 (Ev.bind (Ev.ofEq f1) (Ev.bind (Ev.ofEq f2) (Ev.bind (Ev.ofEq f3) (Ev.bind (Ev.ofEq f4) (Ev.bind (Ev.now _) (Ev.pos ?_ (Ev.now _)))))))))⟩
        rw [size_ofNums]
        simp only [List.length_cons, List.length_nil]
        omega
      · by_cases k3 : v3 = 3
        · generalize hy : ([127, 128, 2047, 2048, 65535, 65536, 1114111, 55295, 57344] : List Int) = y
          have hok : ∀ x ∈ y, chOK x = true := by rw [← hy]; decide
          have hl : y.length = 9 := by rw [← hy]; rfl
          obtain ⟨w1, a5, p1, f1, d1, d1', _⟩ := src_next l hs a3 q3 9 (by omega) (by omega) hq3 (by omega)
          have hc : chOK (rd y w1) = true := by
            obtain ⟨i, rfl⟩ : ∃ i : Nat, w1 = i := ⟨w1.toNat, by omega⟩
            exact hok _ (rd_mem y i (by omega))
          have he : Ev (fun k => spec_l01Encode.f k [rd y w1]) (strOfNums (ebs [rd y w1])) := Ev.from 1 (fun k hk => l01Encode_eq [rd y w1] (by simp) (fun i hi => by
            obtain rfl : i = 0 := by simpa using hi
            exact hc) k (by simpa using hk))
          have hl2 := (ebs_length [rd y w1]).2
          refine ⟨strOfNums (ebs [rd y w1]) ++ t, Ev.step (fun k => by rw [spec_l01Draw.j0, hy]) ?_⟩
          refine Ev.neg Bool.false_ne_true (Ev.neg k2 (Ev.pos k3 ?_))
          refine Ev.bind (Ev.now _) ?_
          refine Ev.bind (Ev.ofEq f1) ?_
          refine Ev.pos d1 (Ev.pos (by simp only; omega) ?_)
          refine Ev.bind he (Ev.pos ?_ (Ev.now _))
          rw [size_ofNums]
          simp only [List.length_cons, List.length_nil] at hl2
          omega
        · exact ⟨t, Ev.step (fun k => by rw [spec_l01Draw.j0]) (Ev.neg Bool.false_ne_true (Ev.neg k2 (Ev.neg k3 (Ev.now _))))⟩
  by_cases k0 : v3 = 0
  · obtain ⟨r, hr⟩ := hj (v3 == 0)
    refine ⟨r, ?_⟩
    unfold spec_l01Draw.f
    refine Ev.bind (Ev.ofEq e0) (Ev.bind (Ev.ofEq ez) ?_)
    simp only
    rw [wz]
    exact Ev.bind (Ev.ofEq e1) (Ev.bind h2 (Ev.bind (Ev.ofEq e3) (Ev.pos k0 hr)))
  · obtain ⟨r, hr⟩ := hj (v3 == 1)
    refine ⟨r, ?_⟩
    unfold spec_l01Draw.f
    refine Ev.bind (Ev.ofEq e0) (Ev.bind (Ev.ofEq ez) ?_)
    simp only
    rw [wz]
    exact Ev.bind (Ev.ofEq e1) (Ev.bind h2 (Ev.bind (Ev.ofEq e3) (Ev.neg k0 hr)))
theorem draw_ex (l : List Int) (hs : BytesOK l) : ∃ t : ByteArray, Ev (fun k => spec_DrawBreak.f k l) t := by
  obtain ⟨q0, e0, hq0⟩ := src_start l hs.1
  obtain ⟨b, a1, q1, e1, c1, c1', hq1⟩ := src_chance l hs 0 q0 60 (by omega) (by omega) hq0 (by omega)
  cases b with
  | true =>
    obtain ⟨v2, a2, q2, e2, b2, b2', _⟩ := src_next l hs a1 q1 2 (by omega) (by omega) hq1 (by omega)
    have ew : wrap64 (8192 + v2) = 8192 + v2 := w64 (by omega) (by omega)
    obtain ⟨u, hu⟩ := rep_ex (8192 + v2) (by omega) (by omega)
    refine ⟨u, ?_⟩
    unfold spec_DrawBreak.f
    refine Ev.bind (Ev.ofEq e0) (Ev.bind (Ev.ofEq e1) (Ev.pos rfl (Ev.bind (Ev.ofEq e2) ?_)))
    simp only
    rw [ew]
    exact Ev.bind hu (Ev.now _)
  | false =>
    obtain ⟨u, hu⟩ := draw1_ex l hs
    refine ⟨u, ?_⟩
    unfold spec_DrawBreak.f
    exact Ev.bind (Ev.ofEq e0) (Ev.bind (Ev.ofEq e1) (Ev.neg Bool.false_ne_true (Ev.bind hu (Ev.now _))))
theorem bytesOK_of (l : List Int) (h : ¬ (l.length : Int) > 1048576) (hb : ∀ y0 ∈ l, (Lit.int .u8 y0).wf = true) : BytesOK l := ⟨by omega, fun i hi => by
  have e : l.getD i 0 = l[i] := by simp [List.getD_eq_getElem?_getD, List.getElem?_eq_getElem hi]
  rw [e]; exact wf8 (hb _ (List.getElem_mem hi))⟩
theorem FnText (l : List Int) (hl : l.length ≤ maxLen ∧ ∀ y0 ∈ l, (Lit.int .u8 y0).wf = true) : ∃ k, laws_FnText.f k l = some true := by
  refine Ev.rounds (g := fun k => laws_FnText.f k l) ?_
  unfold laws_FnText.f
  by_cases h : (l.length : Int) > 1048576
  · exact Ev.pos h (Ev.now _)
  · refine Ev.neg h ?_
    obtain ⟨t, ht⟩ := draw_ex l (bytesOK_of l h hl.2)
    refine Ev.bind ht ?_
    refine Ev.bind (Ev.ofEq (impl_Decode_eq t)) ?_
    refine Ev.bind (spec_Decode_eq t) ?_
    refine Ev.pos rfl ?_
    by_cases h0 : (decTell t).2 = 0
    · refine Ev.pos h0 ?_
      obtain ⟨g1, g2, g3, g4, g5⟩ := decTell_good t h0
      have hlen := decTell_length t
      have hback : strOfNums (ebs (decTell t).1) = t := by rw [g3, ← text_back t g2, str_bytes]
      have henc : Ev (fun k => impl_Encode.f k (decTell t).1) (t, 0) := by
        have e : encTell (decTell t).1 = (t, 0) := by
          unfold encTell
          rw [if_neg (by omega), if_pos (List.all_eq_true.2 g4), if_neg (by omega), hback]
        rw [← e]
        exact Ev.from ((decTell t).1.length + 2) (fun k hk => impl_Encode_eq _ k hk)
      obtain ⟨f1, f2⟩ := fold_twice t h0
      have hf1 := impl_FoldText_eq t
      rw [f1] at hf1
      have hf2 := impl_FoldText_eq (strOfNums (ebs ((decTell t).1.map foldv)))
      rw [f2] at hf2
      refine Ev.bind henc ?_
      refine Ev.bind hf1 ?_
      refine Ev.bind hf2 ?_
      refine Ev.pos rfl (Ev.pos rfl (Ev.pos rfl (Ev.pos rfl ?_)))
      refine Ev.step (fun k => by rw [laws_FnText.j0]) ?_
      refine Ev.neg (by simp) ?_
      refine Ev.bind (Ev.ofEq (impl_Break_eq t)) ?_
      refine Ev.bind (spec_Break_eq t) ?_
      refine Ev.pos rfl ?_
      by_cases hb : (brTell t).2 = 0
      · refine Ev.pos hb ?_
        have hw := brTell_len t
        have e : (brTell t).1 = impl_Break.tl t := by
          unfold brTell finB at hb ⊢
          rw [if_neg (by omega), if_pos g2] at hb ⊢
          split at hb
          · cases hb
          · rename_i c; rw [if_neg c]
        rw [e] at hw ⊢
        have key := words_ev (TX_of t g1 g2) g1 (impl_Decode.runes t t.size 0).length 0 0 [] (by omega) (by omega) (by omega) (fun c h1 h2 => by omega) (by
          have : (impl_Break.tl t).length ≤ 65536 := by omega
          exact this)
        exact key
      · exact Ev.neg hb (Ev.now _)
    · exact Ev.neg h0 (Ev.now _)

end Go.Proofs.YtcokeankiedfcaaDoor.Pure
