/- Whatever the list of numbers, the program's Encode tells what the reference's Encode tells and writes into no argument: the law answers true. No condition. -/
import Derived.Test.YtkflfpkmcdmdhaaOFnExactEncodex2
import Derived.Test.YtkflfpkmcdmdhaaKit
set_option linter.unusedSimpArgs false
namespace Go.Proofs.Ytkflfpkmcdmdhaa.Pure
open Go.RowKit Go.Proofs.Ytkflfpkmcdmdhaa.OFnExactEncode Go.Proofs.YtkflfpkmcdmdhaaW.PrintWords Go.Proofs.YtkflfpkmcdmdhaaW.PrintLast Go.Proofs.YtkflfpkmcdmdhaaW.PrintMore Go.Proofs.Ytkflfpkmcdmdhaa.Kit

def eb (a : Int) : List Int := if a < 128 then [a] else if a < 2048 then [192 + a / 64, 128 + a % 64] else if a < 65536 then [224 + a / 4096, 128 + a / 64 % 64, 128 + a % 64] else [240 + a / 262144, 128 + a / 4096 % 64, 128 + a / 64 % 64, 128 + a % 64]
def chOK (a : Int) : Bool := decide (0 ≤ a ∧ a ≤ 1114111 ∧ (a < 55296 ∨ 57343 < a))

theorem chOK_iff (a : Int) : chOK a = true ↔ 0 ≤ a ∧ a ≤ 1114111 ∧ (a < 55296 ∨ 57343 < a) := by simp [chOK]

theorem eb_length (a : Int) : 1 ≤ (eb a).length ∧ (eb a).length ≤ 4 := by
  unfold eb; (repeat' split) <;> simp

theorem charOK_eq (a : Int) : spec_l01CharOK.f a = some (chOK a) := by
  unfold spec_l01CharOK.f chOK
  (repeat' split) <;> (congr 1; rw [Bool.eq_iff_iff]; simp; try omega)

theorem isChar_eq (a : Int) : impl_isChar.f a = some (chOK a) := by
  unfold impl_isChar.f chOK
  (repeat' split) <;> (congr 1; rw [Bool.eq_iff_iff]; simp; try omega)

theorem bytes_eq (a : Int) (h : chOK a = true) : spec_l01Bytes.f a = some (eb a) := by
  obtain ⟨h0, h1, _⟩ := (chOK_iff a).1 h
  unfold spec_l01Bytes.f eb
  simp only [Int.tdiv_eq_ediv_of_nonneg h0, Int.tmod_eq_emod_of_nonneg h0]
  have d1 : wrap64 (a / 64) = a / 64 := w64 (by omega) (by omega)
  have d2 : wrap64 (a / 4096) = a / 4096 := w64 (by omega) (by omega)
  have d3 : wrap64 (a / 262144) = a / 262144 := w64 (by omega) (by omega)
  rw [d1, d2, d3]
  have m1 : Int.tmod (a / 64) 64 = a / 64 % 64 := Int.tmod_eq_emod_of_nonneg (by omega)
  have m2 : Int.tmod (a / 4096) 64 = a / 4096 % 64 := Int.tmod_eq_emod_of_nonneg (by omega)
  rw [m1, m2]
  have b0 : wrap64 (128 + a % 64) % 256 = 128 + a % 64 := by rw [w64 (by omega) (by omega)]; omega
  have b1 : wrap64 (128 + a / 64 % 64) % 256 = 128 + a / 64 % 64 := by rw [w64 (by omega) (by omega)]; omega
  have b2 : wrap64 (128 + a / 4096 % 64) % 256 = 128 + a / 4096 % 64 := by rw [w64 (by omega) (by omega)]; omega
  rw [b0, b1, b2]
  by_cases c1 : a < 128
  · rw [if_pos c1, if_pos c1, Int.emod_eq_of_lt h0 (by omega)]
  · rw [if_neg c1, if_neg c1]
    by_cases c2 : a < 2048
    · rw [if_pos c2, if_pos c2, w64 (x := 192 + a / 64) (by omega) (by omega), Int.emod_eq_of_lt (a := 192 + a / 64) (by omega) (by omega)]
    · rw [if_neg c2, if_neg c2]
      by_cases c3 : a < 65536
      · rw [if_pos c3, if_pos c3, w64 (x := 224 + a / 4096) (by omega) (by omega), Int.emod_eq_of_lt (a := 224 + a / 4096) (by omega) (by omega)]
      · rw [if_neg c3, if_neg c3, w64 (x := 240 + a / 262144) (by omega) (by omega), Int.emod_eq_of_lt (a := 240 + a / 262144) (by omega) (by omega)]

theorem appendRune_eq (k : Nat) (pre : List Int) (a : Int) (h : chOK a = true) (hl : pre.length < 140737488355000) : utf8_AppendRune.f (k + 1) pre a = some (pre ++ eb a) := by
  obtain ⟨h0, h1, h2⟩ := (chOK_iff a).1 h
  have e : a % 4294967296 = a := Int.emod_eq_of_lt h0 (by omega)
  unfold utf8_AppendRune.f eb
  rw [e]
  by_cases c1 : a < 128
  · rw [if_pos (by omega), if_pos (by omega), if_pos c1, Int.emod_eq_of_lt h0 (by omega)]
  · rw [if_neg (by omega), if_neg c1]
    unfold utf8_appendRuneNonASCII.f
    rw [e]
    by_cases c2 : a < 2048
    · have o : Go.bits .or .u8 192 (a / 64 % 256) = 192 + a / 64 := by
        rw [Int.emod_eq_of_lt (a := a / 64) (by omega) (by omega)]; exact u8_or192 _ (by omega) (by omega)
      rw [if_pos (by omega), if_pos c2, o]
      simp only [Option.bind_some]
      rw [if_pos (by simp; omega)]
      rfl
    · rw [if_neg (by omega), if_neg c2]
      by_cases c3 : a < 65536
      · have o : Go.bits .or .u8 224 (a / 4096 % 256) = 224 + a / 4096 := by
          rw [Int.emod_eq_of_lt (a := a / 4096) (by omega) (by omega)]; exact u8_or224 _ (by omega) (by omega)
        have go : ∀ b : Bool, b = true → (utf8_appendRuneNonASCII.j0 (k + 1) pre a a b).bind (fun t164 => some t164) = some (pre ++ [224 + a / 4096, 128 + a / 64 % 64, 128 + a % 64]) := by
          intro b hb
          rw [utf8_appendRuneNonASCII.j0, if_pos hb, o]
          simp only [Option.bind_some]
          rw [if_pos (by simp; omega)]
          rfl
        rw [if_pos c3]
        by_cases c4 : a < 55296
        · rw [if_pos c4]; exact go _ (decide_eq_true c4)
        · rw [if_neg c4, if_pos (by omega)]; exact go _ (decide_eq_true (by omega))
      · have o : Go.bits .or .u8 240 (a / 262144 % 256) = 240 + a / 262144 := by
          rw [Int.emod_eq_of_lt (a := a / 262144) (by omega) (by omega)]; exact u8_or240 _ (by omega) (by omega)
        rw [if_neg c3, if_neg (by omega), if_pos (by omega), utf8_appendRuneNonASCII.j0, if_neg (by simp; omega), if_pos (by omega), if_pos (by omega), o]
        simp only [Option.bind_some]
        rw [if_pos (by simp; omega)]
        rfl

theorem wrap32_ch (a : Int) (h : chOK a = true) : wrap32 a = a := by
  obtain ⟨h0, h1, h2⟩ := (chOK_iff a).1 h
  unfold wrap32; omega

/-- The bytes of a list of characters, one behind the other. -/
def ebs (l : List Int) : List Int := l.flatMap eb

theorem ebs_snoc (l : List Int) (a : Int) : ebs (l ++ [a]) = ebs l ++ eb a := by simp [ebs]
theorem ebs_take (l : List Int) (i : Nat) (h : i < l.length) : ebs (l.take (i + 1)) = ebs (l.take i) ++ eb (l.getD i 0) := by
  rw [List.take_succ_eq_append_getElem h, ebs_snoc, List.getD_eq_getElem?_getD, List.getElem?_eq_getElem h]; rfl
theorem ebs_length (l : List Int) : l.length ≤ (ebs l).length ∧ (ebs l).length ≤ 4 * l.length := by
  induction l with
  | nil => simp [ebs]
  | cons a l ih =>
    have := eb_length a
    have e : ebs (a :: l) = eb a ++ ebs l := by simp [ebs]
    rw [e]; simp only [List.length_append, List.length_cons]; omega
theorem size_ofNums (l : List Int) : (strOfNums l).size = l.length := by
  simp [strOfNums, ByteArray.size]

theorem l01Encode_from (xs : List Int) (hn : xs.length ≤ 34359738368) (hb : ∀ i, i < xs.length → chOK (xs.getD i 0) = true) (d : Nat) : ∀ (k i : Nat), i + d = xs.length → d < k →
    spec_l01Encode.l0 k xs (ebs (xs.take i)) (i : Int) = some (strOfNums (ebs xs)) := by
  induction d with
  | zero =>
    intro k i hi hk
    obtain ⟨k, rfl⟩ : ∃ m, k = m + 1 := ⟨k - 1, by omega⟩
    rw [spec_l01Encode.l0, if_neg (by omega), List.take_of_length_le (by omega)]
  | succ d ih =>
    intro k i hi hk
    obtain ⟨k, rfl⟩ : ∃ m, k = m + 1 := ⟨k - 1, by omega⟩
    have hl := ebs_length (xs.take i)
    have hl2 : (xs.take i).length ≤ i := List.length_take_le _ _
    have he := eb_length (xs.getD i 0)
    rw [spec_l01Encode.l0, if_pos (by omega), if_pos (by omega), rd_nat, bytes_eq _ (hb i (by omega))]
    simp only [Option.bind_some]
    have e : wrap64 ((i : Int) + 1) = ((i + 1 : Nat) : Int) := by rw [w64 (by omega) (by omega)]; omega
    rw [if_pos (by omega), ← ebs_take xs i (by omega), e]
    exact ih k (i + 1) (by omega) (by omega)

theorem l01Encode_eq (xs : List Int) (hn : xs.length ≤ 34359738368) (hb : ∀ i, i < xs.length → chOK (xs.getD i 0) = true) (k : Nat) (hk : xs.length < k) :
    spec_l01Encode.f k xs = some (strOfNums (ebs xs)) := l01Encode_from xs hn hb xs.length k 0 (by omega) hk

/-- What both tell of a list of characters: the text, or the code. -/
def encTell (xs : List Int) : ByteArray × Int :=
  if (xs.length : Int) > 65536 then (⟨#[]⟩, 2) else if xs.all chOK then (if ((ebs xs).length : Int) > 65536 then (⟨#[]⟩, 2) else (strOfNums (ebs xs), 0)) else (⟨#[]⟩, 1)

theorem allOK (xs : List Int) : xs.all chOK = true ↔ ∀ i, i < xs.length → chOK (xs.getD i 0) = true := by
  rw [List.all_eq_true]
  constructor
  · intro h i hi
    apply h
    rw [List.getD_eq_getElem?_getD, List.getElem?_eq_getElem hi]; exact List.getElem_mem hi
  · intro h x hx
    obtain ⟨i, hi, rfl⟩ := List.getElem_of_mem hx
    have := h i hi
    rwa [List.getD_eq_getElem?_getD, List.getElem?_eq_getElem hi] at this

theorem notAll (xs : List Int) (i : Nat) (hi : i < xs.length) (h : chOK (xs.getD i 0) = false) : xs.all chOK = false := by
  by_cases c : xs.all chOK = true
  · have := (allOK xs).1 c i hi
    rw [h] at this; cases this
  · simpa using c

theorem spec_Encode_from (xs : List Int) (hn : xs.length ≤ 65536) (d : Nat) : ∀ (k i : Nat), i + d = xs.length → xs.length + d + 1 < k → (∀ j, j < i → chOK (xs.getD j 0) = true) →
    spec_Encode.l0 k xs (i : Int) = some (encTell xs) := by
  induction d with
  | zero =>
    intro k i hi hk hb
    obtain ⟨k, rfl⟩ : ∃ m, k = m + 1 := ⟨k - 1, by omega⟩
    have hb' : ∀ j, j < xs.length → chOK (xs.getD j 0) = true := fun j hj => hb j (by omega)
    rw [spec_Encode.l0, if_neg (by omega), l01Encode_eq xs (by omega) hb' k (by omega)]
    simp only [Option.bind_some, size_ofNums, encTell]
    rw [if_neg (show ¬ ((xs.length : Int) > 65536) by omega), if_pos ((allOK xs).2 hb')]
    split <;> rfl
  | succ d ih =>
    intro k i hi hk hb
    obtain ⟨k, rfl⟩ : ∃ m, k = m + 1 := ⟨k - 1, by omega⟩
    have e : wrap64 ((i : Int) + 1) = ((i + 1 : Nat) : Int) := by rw [w64 (by omega) (by omega)]; omega
    rw [spec_Encode.l0, if_pos (by omega), if_pos (by omega), rd_nat, charOK_eq]
    simp only [Option.bind_some]
    by_cases c : chOK (xs.getD i 0) = true
    · rw [if_pos c, e]
      refine ih k (i + 1) (by omega) (by omega) ?_
      intro j hj
      by_cases cj : j = i
      · rw [cj]; exact c
      · exact hb j (by omega)
    · have c' : chOK (xs.getD i 0) = false := by simpa using c
      rw [if_neg c]
      unfold encTell
      rw [if_neg (show ¬ ((xs.length : Int) > 65536) by omega), notAll xs i (by omega) c']
      rfl

theorem spec_Encode_eq (xs : List Int) (k : Nat) (hk : 2 * xs.length + 1 < k) : spec_Encode.f k xs = some (encTell xs) := by
  unfold spec_Encode.f
  by_cases h : (xs.length : Int) > 65536
  · rw [if_pos h]; simp [encTell, h]
  · rw [if_neg h]; exact spec_Encode_from xs (by omega) xs.length k 0 (by omega) (by omega) (fun j hj => by omega)

theorem impl_Encode_from (xs : List Int) (hn : xs.length ≤ 65536) (d : Nat) : ∀ (k i : Nat), i + d = xs.length → d + 2 < k → (∀ j, j < i → chOK (xs.getD j 0) = true) →
    impl_Encode.l0 k (ebs (xs.take i)) xs (xs.length : Int) (i : Int) = some (encTell xs) := by
  induction d with
  | zero =>
    intro k i hi hk hb
    obtain ⟨k, rfl⟩ : ∃ m, k = m + 1 := ⟨k - 1, by omega⟩
    have hb' : ∀ j, j < xs.length → chOK (xs.getD j 0) = true := fun j hj => hb j (by omega)
    rw [impl_Encode.l0, if_neg (by omega), List.take_of_length_le (by omega)]
    unfold encTell
    rw [if_neg (show ¬ ((xs.length : Int) > 65536) by omega), if_pos ((allOK xs).2 hb')]
    split <;> rfl
  | succ d ih =>
    intro k i hi hk hb
    obtain ⟨k, rfl⟩ : ∃ m, k = m + 2 := ⟨k - 2, by omega⟩
    have hl := ebs_length (xs.take i)
    have hl2 : (xs.take i).length ≤ i := List.length_take_le _ _
    have e : wrap64 ((i : Int) + 1) = ((i + 1 : Nat) : Int) := by rw [w64 (by omega) (by omega)]; omega
    rw [impl_Encode.l0, if_pos (by omega), if_pos (by omega), if_pos (by omega), rd_nat, isChar_eq]
    simp only [Option.bind_some]
    by_cases c : chOK (xs.getD i 0) = true
    · rw [if_pos c, wrap32_ch _ c, appendRune_eq k _ _ c (by omega), e]
      simp only [Option.bind_some]
      rw [← ebs_take xs i (by omega)]
      refine ih (k + 1) (i + 1) (by omega) (by omega) ?_
      intro j hj
      by_cases cj : j = i
      · rw [cj]; exact c
      · exact hb j (by omega)
    · have c' : chOK (xs.getD i 0) = false := by simpa using c
      rw [if_neg c]
      unfold encTell
      rw [if_neg (show ¬ ((xs.length : Int) > 65536) by omega), notAll xs i (by omega) c']
      rfl

theorem impl_Encode_eq (xs : List Int) (k : Nat) (hk : xs.length + 2 < k) : impl_Encode.f k xs = some (encTell xs) := by
  unfold impl_Encode.f
  by_cases h : (xs.length : Int) > 65536
  · rw [if_pos h]; simp [encTell, h]
  · rw [if_neg h]; exact impl_Encode_from xs (by omega) xs.length k 0 (by omega) hk (fun j hj => by omega)

theorem toI (xs : List Int) (hn : xs.length ≤ 35184372088832) (k : Nat) (hk : xs.length < k) : laws_toIntS.f k xs = some xs := by
  unfold laws_toIntS.f
  rw [if_pos (by omega), if_pos (by omega), Int.toNat_natCast]
  exact toS_all laws_toIntS.l0 (fun _ _ _ _ => rfl) xs (by omega) k hk

theorem eqI (xs : List Int) (hn : xs.length ≤ 140737488351232) (k : Nat) (hk : xs.length < k) : laws_eqIntS.f k xs xs = some true := by
  unfold laws_eqIntS.f
  rw [if_pos rfl]
  exact eqS_all laws_eqIntS.l0 (fun _ _ _ _ => rfl) xs (by omega) k hk

theorem FnExactEncode : laws_FnExactEncode.Pure := by
  intro xs _ hn _
  refine ⟨2 * xs.length + 10, ?_⟩
  unfold laws_FnExactEncode.f
  by_cases h : (xs.length : Int) > 1048576
  · rw [if_pos h]
  · rw [if_neg h, toI xs (by omega) _ (by omega)]
    simp only [Option.bind_some]
    rw [spec_Encode_eq xs _ (by omega), impl_Encode_eq xs _ (by omega)]
    simp only [Option.bind_some, if_true, bne_self_eq_false]
    rw [laws_FnExactEncode.j0, if_neg (by decide), toI xs (by omega) _ (by omega)]
    simp only [Option.bind_some]
    rw [eqI xs (by omega) _ (by omega)]
    simp

end Go.Proofs.Ytkflfpkmcdmdhaa.Pure
