/- Whatever the automaton and the text, the program's Accepts tells what the reference's Accepts tells and writes into no argument: the law answers true. No condition. -/
import Derived.Test.YtcokeankiedfcaaDoorXFnExactAcceptsx8
import Derived.Test.YtcokeankiedfcaaDoorKit
import Derived.Lib.ItoaNum
import Derived.Lib.Bytes
import Derived.Test.YtcokeankiedfcaaDoorWfFnExactAccepts
set_option linter.unusedSimpArgs false
set_option linter.unusedVariables false
namespace Go.Proofs.YtcokeankiedfcaaDoor.Pure
open Go.RowKit Go.Proofs.YtcokeankiedfcaaDoor.XFnExactAccepts Go.Proofs.YtcokeankiedfcaaDoorW.PrintWords Go.Proofs.YtcokeankiedfcaaDoorW.PrintLast Go.Proofs.YtcokeankiedfcaaDoorW.PrintMore Go.Proofs.YtcokeankiedfcaaDoor.Kit

theorem Ev.steps {α : Type} {g f : Nat → Option α} {r : α} (c : Nat) (h : ∀ k, g (k + c) = f k) (k : Ev f r) : Ev g r := by
  obtain ⟨K, hK⟩ := k
  refine ⟨K + c, fun n hn => ?_⟩
  have := h (n - c)
  rw [Nat.sub_add_cancel (by omega)] at this
  rw [this]; exact hK _ (by omega)

theorem Ev.pos {α : Type} {c : Prop} [Decidable c] {f g : Nat → Option α} {r : α} (h : c) (k : Ev f r) : Ev (fun n => if c then f n else g n) r := Ev.congr (fun n => if_pos h) k
theorem Ev.neg {α : Type} {c : Prop} [Decidable c] {f g : Nat → Option α} {r : α} (h : ¬ c) (k : Ev g r) : Ev (fun n => if c then f n else g n) r := Ev.congr (fun n => if_neg h) k
theorem Ev.ofEq {α : Type} {x : Option α} {r : α} (h : x = some r) : Ev (fun _ => x) r := ⟨0, fun _ _ => h⟩
theorem Ev.from {α : Type} {g : Nat → Option α} {r : α} (K : Nat) (h : ∀ k, K < k → g k = some r) : Ev g r := ⟨K + 1, fun k hk => h k (by omega)⟩

/-! ### Copies and equality of rows of whatever kind -/
theorem conv_all {α β : Type} (L : Nat → List α → List β → Int → Option (List β)) (xs : List α) (g : α → β) (z : β)
    (hs : ∀ (i : Nat) (hi : i < xs.length) (ys : List β) (r : List β), ys.length = xs.length → Ev (fun k => L k xs (ys.set i (g xs[i])) ((i + 1 : Nat) : Int)) r → Ev (fun k => L k xs ys (i : Int)) r)
    (he : ∀ ys : List β, Ev (fun k => L k xs ys (xs.length : Int)) ys) : Ev (fun k => L k xs (List.replicate xs.length z) 0) (xs.map g) := by
  have key : ∀ (d i : Nat) (ys : List β), i + d = xs.length → ys.length = xs.length → ys.take i = (xs.map g).take i → Ev (fun k => L k xs ys (i : Int)) (xs.map g) := by
    intro d
    induction d with
    | zero =>
      intro i ys hi hl ht
      have e : ys = xs.map g := by
        rw [← List.take_of_length_le (i := i) (l := ys) (by omega), ht, List.take_of_length_le (by simp; omega)]
      have h := he ys
      rw [show (i : Int) = (xs.length : Int) by omega, ← e]
      exact h
    | succ d ih =>
      intro i ys hi hl ht
      have hlt : i < xs.length := by omega
      refine hs i hlt ys _ hl (ih (i + 1) _ (by omega) (by simp [hl]) ?_)
      rw [List.take_succ_eq_append_getElem (by rw [List.length_set]; omega), List.take_succ_eq_append_getElem (by simp; omega), List.getElem_set_self, List.take_set_of_le (Nat.le_refl _), ht, List.getElem_map]
  have h := key xs.length 0 (List.replicate xs.length z) (by omega) (by simp) (by simp)
  exact h

theorem same_all {α : Type} (L : Nat → List α → List α → Int → Option Bool) (xs : List α)
    (hs : ∀ (i : Nat) (_ : i < xs.length), Ev (fun k => L k xs xs ((i + 1 : Nat) : Int)) true → Ev (fun k => L k xs xs (i : Int)) true)
    (he : Ev (fun k => L k xs xs (xs.length : Int)) true) : Ev (fun k => L k xs xs 0) true := by
  have key : ∀ (d i : Nat), i + d = xs.length → Ev (fun k => L k xs xs (i : Int)) true := by
    intro d
    induction d with
    | zero => intro i hi; rw [show (i : Int) = (xs.length : Int) by omega]; exact he
    | succ d ih => intro i hi; exact hs i (by omega) (ih (i + 1) (by omega))
  exact key xs.length 0 (by omega)

theorem getD_in {α : Type} (xs : List α) (z : α) (i : Nat) (hi : i < xs.length) : xs.getD i z = xs[i] := by
  rw [List.getD_eq_getElem?_getD, List.getElem?_eq_getElem hi]; rfl

def eb (a : Int) : List Int := if a < 128 then [a] else if a < 2048 then [192 + a / 64, 128 + a % 64] else if a < 65536 then [224 + a / 4096, 128 + a / 64 % 64, 128 + a % 64] else [240 + a / 262144, 128 + a / 4096 % 64, 128 + a / 64 % 64, 128 + a % 64]
def chOK (a : Int) : Bool := decide (0 ≤ a ∧ a ≤ 1114111 ∧ (a < 55296 ∨ 57343 < a))

theorem chOK_iff (a : Int) : chOK a = true ↔ 0 ≤ a ∧ a ≤ 1114111 ∧ (a < 55296 ∨ 57343 < a) := by simp [chOK]

theorem eb_length (a : Int) : 1 ≤ (eb a).length ∧ (eb a).length ≤ 4 := by
  unfold eb; (repeat' split) <;> simp

theorem charOK_eq (a : Int) : spec_l01CharOK.f a = some (chOK a) := by
  unfold spec_l01CharOK.f chOK
  (repeat' split) <;> (congr 1; rw [Bool.eq_iff_iff]; simp; try omega)

theorem bytes_eq (a : Int) (h : chOK a = true) : spec_l01Bytes.f a = some (eb a) := by
  obtain ⟨h0, h1, _⟩ := (chOK_iff a).1 h
  unfold spec_l01Bytes.f eb
  simp only [Int.tdiv_eq_ediv_of_nonneg h0, Int.tmod_eq_emod_of_nonneg h0]
  have d1 : wrap64 (a / 64) = a / 64 := w64 (by omega) (by omega)
  have d2 : wrap64 (a / 4096) = a / 4096 := w64 (by omega) (by omega)
  have d3 : wrap64 (a / 262144) = a / 262144 := w64 (by omega) (by omega)
  rw [d1, d2, d3]
  have m1 : Int.tmod (a / 64) 64 = a / 64 % 64 := Int.tmod_eq_emod_of_nonneg (by omega)
  have m2 : Int.tmod (a / 4096) 64 = a / 4096 % 64 := Int.tmod_eq_emod_of_nonneg (by omega)
  rw [m1, m2]
  have b0 : wrap64 (128 + a % 64) % 256 = 128 + a % 64 := by rw [w64 (by omega) (by omega)]; omega
  have b1 : wrap64 (128 + a / 64 % 64) % 256 = 128 + a / 64 % 64 := by rw [w64 (by omega) (by omega)]; omega
  have b2 : wrap64 (128 + a / 4096 % 64) % 256 = 128 + a / 4096 % 64 := by rw [w64 (by omega) (by omega)]; omega
  rw [b0, b1, b2]
  by_cases c1 : a < 128
  · rw [if_pos c1, if_pos c1, Int.emod_eq_of_lt h0 (by omega)]
  · rw [if_neg c1, if_neg c1]
    by_cases c2 : a < 2048
    · rw [if_pos c2, if_pos c2, w64 (x := 192 + a / 64) (by omega) (by omega), Int.emod_eq_of_lt (a := 192 + a / 64) (by omega) (by omega)]
    · rw [if_neg c2, if_neg c2]
      by_cases c3 : a < 65536
      · rw [if_pos c3, if_pos c3, w64 (x := 224 + a / 4096) (by omega) (by omega), Int.emod_eq_of_lt (a := 224 + a / 4096) (by omega) (by omega)]
      · rw [if_neg c3, if_neg c3, w64 (x := 240 + a / 262144) (by omega) (by omega), Int.emod_eq_of_lt (a := 240 + a / 262144) (by omega) (by omega)]


/-! ### Decoding -/
theorem bt_get (s : ByteArray) (i : Nat) : bt s (i : Int) = ((s.get! i).toNat : Int) := by
  have h := Lib.getD_get!' s i
  unfold bt
  rw [Int.toNat_natCast]
  by_cases c : i < s.size
  · rw [dif_pos c, ← h, List.getD_eq_getElem?_getD, List.getElem?_eq_getElem (by rw [data_length]; exact c)]; rfl
  · rw [dif_neg c, ← h, List.getD_eq_getElem?_getD, List.getElem?_eq_none (by rw [data_length]; omega)]; rfl

/-- What the reference's look at a place tells, out of the decoder's step. -/
def stepR (d : Nat × Nat) : Int × Int := if d.1 = 65533 ∧ d.2 = 1 then (0, 0) else ((d.1 : Int), (d.2 : Int))
def finR (v n : Int) : Int × Int := if chOK v = true ∧ ((eb v).length : Int) = n then (v, n) else (0, 0)

theorem l0_end (s : ByteArray) (pos n v : Int) (k : Nat) : spec_l01At.l0 (k + 1) s pos n v n = some (finR v n) := by
  rw [spec_l01At.l0, if_neg (by omega), charOK_eq, Option.bind_some, finR]
  by_cases c : chOK v = true
  · rw [if_pos c, bytes_eq v c, Option.bind_some]
    by_cases c2 : ((eb v).length : Int) = n
    · rw [if_pos c2, if_pos ⟨c, c2⟩]
    · rw [if_neg c2, if_neg (fun h => c2 h.2)]
  · rw [if_neg c, if_neg (fun h => c h.1)]

theorem l0_step (s : ByteArray) (pos i n : Nat) (v : Int) (k : Nat) (hs : s.size ≤ 1048576) (hi : i < n) (hin : pos + i < s.size) (h0 : 0 ≤ v) (h1 : v ≤ 100000000) (b : Nat) (hb : (s.get! (pos + i)).toNat = b) :
    spec_l01At.l0 (k + 1) s (pos : Int) (n : Int) v (i : Int) = if b / 64 = 2 then spec_l01At.l0 k s (pos : Int) (n : Int) (v * 64 + ((b % 64 : Nat) : Int)) ((i + 1 : Nat) : Int) else some (0, 0) := by
  have hlt : b < 256 := by rw [← hb]; exact UInt8.toNat_lt _
  have e1 : Aside0 (wrap64 ((pos : Int) + (i : Int)) = ((pos + i : Nat) : Int)) := ⟨by rw [w64 (by omega) (by omega)]; omega⟩
  have e2 : Aside0 (wrap64 ((i : Int) + 1) = ((i + 1 : Nat) : Int)) := ⟨by rw [w64 (by omega) (by omega)]; omega⟩
  have e3 : Aside0 (wrap64 (b : Int) = (b : Int)) := ⟨w64 (by omega) (by omega)⟩
  rw [spec_l01At.l0, if_pos (by omega), e1.out, if_pos (by omega), if_pos (by omega), bt_get, hb, e3.out, e2.out]
  by_cases c1 : (b : Int) < 128
  · rw [if_pos c1, if_neg (by omega)]
  · rw [if_neg c1]
    by_cases c2 : (b : Int) > 191
    · rw [if_pos c2, if_neg (by omega)]
    · have e4 : wrap64 (wrap64 (wrap64 (v * 64) + (b : Int)) - 128) = v * 64 + ((b % 64 : Nat) : Int) := by
        rw [w64 (x := v * 64) (by omega) (by omega), w64 (x := v * 64 + (b : Int)) (by omega) (by omega), w64 (by omega) (by omega)]; omega
      rw [if_neg c2, if_pos (by omega), e4]

theorem at2 (s : ByteArray) (pos : Nat) (v : Int) (hs : s.size ≤ 1048576) (hp : pos < s.size) (h0 : 0 ≤ v) (h1 : v ≤ 1000) (b1 : Nat) (hb1 : (s.get! (pos + 1)).toNat = b1) :
    Ev (fun k => spec_l01At.j0 k s (pos : Int) 2 v) (if 1 < s.size - pos ∧ b1 / 64 = 2 then finR (v * 64 + ((b1 % 64 : Nat) : Int)) 2 else (0, 0)) := by
  have e1 : Aside0 (wrap64 ((pos : Int) + 2) = ((pos + 2 : Nat) : Int)) := ⟨by rw [w64 (by omega) (by omega)]; omega⟩
  by_cases c : 1 < s.size - pos
  · have hst := fun k => l0_step s pos 1 2 v k hs (by omega) (by omega) h0 (by omega) b1 hb1
    by_cases d : b1 / 64 = 2
    · rw [if_pos ⟨c, d⟩]
      refine Ev.steps 3 (fun k => ?_) (Ev.now _)
      have h := hst (k + 1)
      rw [if_pos d] at h
      rw [spec_l01At.j0, e1.out, if_neg (by omega)]
      exact h.trans (l0_end s _ _ _ _)
    · rw [if_neg (fun h => d h.2)]
      refine Ev.steps 2 (fun k => ?_) (Ev.now _)
      have h := hst k
      rw [if_neg d] at h
      rw [spec_l01At.j0, e1.out, if_neg (by omega)]
      exact h
  · rw [if_neg (fun h => c h.1)]
    refine Ev.step (fun k => ?_) (Ev.now _)
    rw [spec_l01At.j0, e1.out, if_pos (by omega)]

theorem at3 (s : ByteArray) (pos : Nat) (v : Int) (hs : s.size ≤ 1048576) (hp : pos < s.size) (h0 : 0 ≤ v) (h1 : v ≤ 1000) (b1 b2 : Nat) (hb1 : (s.get! (pos + 1)).toNat = b1) (hb2 : (s.get! (pos + 2)).toNat = b2) :
    Ev (fun k => spec_l01At.j0 k s (pos : Int) 3 v) (if 2 < s.size - pos ∧ b1 / 64 = 2 ∧ b2 / 64 = 2 then finR ((v * 64 + ((b1 % 64 : Nat) : Int)) * 64 + ((b2 % 64 : Nat) : Int)) 3 else (0, 0)) := by
  have e1 : Aside0 (wrap64 ((pos : Int) + 3) = ((pos + 3 : Nat) : Int)) := ⟨by rw [w64 (by omega) (by omega)]; omega⟩
  by_cases c : 2 < s.size - pos
  · have hst := fun k => l0_step s pos 1 3 v k hs (by omega) (by omega) h0 (by omega) b1 hb1
    by_cases d : b1 / 64 = 2
    · have hst2 := fun k => l0_step s pos 2 3 (v * 64 + ((b1 % 64 : Nat) : Int)) k hs (by omega) (by omega) (by omega) (by omega) b2 hb2
      by_cases d2 : b2 / 64 = 2
      · rw [if_pos ⟨c, d, d2⟩]
        refine Ev.steps 4 (fun k => ?_) (Ev.now _)
        have h := hst (k + 2)
        rw [if_pos d] at h
        have h2 := hst2 (k + 1)
        rw [if_pos d2] at h2
        rw [spec_l01At.j0, e1.out, if_neg (by omega)]
        exact h.trans (h2.trans (l0_end s _ _ _ _))
      · rw [if_neg (fun h => d2 h.2.2)]
        refine Ev.steps 3 (fun k => ?_) (Ev.now _)
        have h := hst (k + 1)
        rw [if_pos d] at h
        have h2 := hst2 k
        rw [if_neg d2] at h2
        rw [spec_l01At.j0, e1.out, if_neg (by omega)]
        exact h.trans h2
    · rw [if_neg (fun h => d h.2.1)]
      refine Ev.steps 2 (fun k => ?_) (Ev.now _)
      have h := hst k
      rw [if_neg d] at h
      rw [spec_l01At.j0, e1.out, if_neg (by omega)]
      exact h
  · rw [if_neg (fun h => c h.1)]
    refine Ev.step (fun k => ?_) (Ev.now _)
    rw [spec_l01At.j0, e1.out, if_pos (by omega)]

theorem at4 (s : ByteArray) (pos : Nat) (v : Int) (hs : s.size ≤ 1048576) (hp : pos < s.size) (h0 : 0 ≤ v) (h1 : v ≤ 1000) (b1 b2 b3 : Nat) (hb1 : (s.get! (pos + 1)).toNat = b1) (hb2 : (s.get! (pos + 2)).toNat = b2) (hb3 : (s.get! (pos + 3)).toNat = b3) :
    Ev (fun k => spec_l01At.j0 k s (pos : Int) 4 v) (if 3 < s.size - pos ∧ b1 / 64 = 2 ∧ b2 / 64 = 2 ∧ b3 / 64 = 2 then finR (((v * 64 + ((b1 % 64 : Nat) : Int)) * 64 + ((b2 % 64 : Nat) : Int)) * 64 + ((b3 % 64 : Nat) : Int)) 4 else (0, 0)) := by
  have e1 : Aside0 (wrap64 ((pos : Int) + 4) = ((pos + 4 : Nat) : Int)) := ⟨by rw [w64 (by omega) (by omega)]; omega⟩
  by_cases c : 3 < s.size - pos
  · have hst := fun k => l0_step s pos 1 4 v k hs (by omega) (by omega) h0 (by omega) b1 hb1
    by_cases d : b1 / 64 = 2
    · have hst2 := fun k => l0_step s pos 2 4 (v * 64 + ((b1 % 64 : Nat) : Int)) k hs (by omega) (by omega) (by omega) (by omega) b2 hb2
      by_cases d2 : b2 / 64 = 2
      · have hst3 := fun k => l0_step s pos 3 4 ((v * 64 + ((b1 % 64 : Nat) : Int)) * 64 + ((b2 % 64 : Nat) : Int)) k hs (by omega) (by omega) (by omega) (by omega) b3 hb3
        by_cases d3 : b3 / 64 = 2
        · rw [if_pos ⟨c, d, d2, d3⟩]
          refine Ev.steps 5 (fun k => ?_) (Ev.now _)
          have h := hst (k + 3)
          rw [if_pos d] at h
          have h2 := hst2 (k + 2)
          rw [if_pos d2] at h2
          have h3 := hst3 (k + 1)
          rw [if_pos d3] at h3
          rw [spec_l01At.j0, e1.out, if_neg (by omega)]
          exact h.trans (h2.trans (h3.trans (l0_end s _ _ _ _)))
        · rw [if_neg (fun h => d3 h.2.2.2)]
          refine Ev.steps 4 (fun k => ?_) (Ev.now _)
          have h := hst (k + 2)
          rw [if_pos d] at h
          have h2 := hst2 (k + 1)
          rw [if_pos d2] at h2
          have h3 := hst3 k
          rw [if_neg d3] at h3
          rw [spec_l01At.j0, e1.out, if_neg (by omega)]
          exact h.trans (h2.trans h3)
      · rw [if_neg (fun h => d2 h.2.2.1)]
        refine Ev.steps 3 (fun k => ?_) (Ev.now _)
        have h := hst (k + 1)
        rw [if_pos d] at h
        have h2 := hst2 k
        rw [if_neg d2] at h2
        rw [spec_l01At.j0, e1.out, if_neg (by omega)]
        exact h.trans h2
    · rw [if_neg (fun h => d h.2.1)]
      refine Ev.steps 2 (fun k => ?_) (Ev.now _)
      have h := hst k
      rw [if_neg d] at h
      rw [spec_l01At.j0, e1.out, if_neg (by omega)]
      exact h
  · rw [if_neg (fun h => c h.1)]
    refine Ev.step (fun k => ?_) (Ev.now _)
    rw [spec_l01At.j0, e1.out, if_pos (by omega)]

theorem eb_len (v : Int) : ((eb v).length : Int) = if v < 128 then 1 else if v < 2048 then 2 else if v < 65536 then 3 else 4 := by
  unfold eb
  repeat' split
  all_goals simp
theorem finR_ok (v n : Int) (h : chOK v = true) (hl : ((eb v).length : Int) = n) : finR v n = (v, n) := by unfold finR; rw [if_pos ⟨h, hl⟩]
theorem finR_len (v n : Int) (hl : ((eb v).length : Int) ≠ n) : finR v n = (0, 0) := by unfold finR; rw [if_neg (fun h => hl h.2)]
theorem finR_ch (v n : Int) (h : ¬ (chOK v = true)) : finR v n = (0, 0) := by unfold finR; rw [if_neg (fun h' => h h'.1)]
theorem stepR_bad : stepR (65533, 1) = (0, 0) := rfl
theorem stepR_wide (v n : Nat) (h : n ≠ 1) : stepR (v, n) = ((v : Int), (n : Int)) := by unfold stepR; rw [if_neg (fun h' => h h'.2)]

theorem dec1 (m b0 b1 b2 b3 : Nat) (h : b0 < 128) : stepR (Lib.decodeN m b0 b1 b2 b3) = ((b0 : Int), 1) := by
  unfold Lib.decodeN
  rw [if_pos h, stepR, if_neg (by simp only; omega)]; rfl
theorem dec0 (m b0 b1 b2 b3 : Nat) (h : 128 ≤ b0) (h' : b0 < 192) : stepR (Lib.decodeN m b0 b1 b2 b3) = (0, 0) := by
  unfold Lib.decodeN
  rw [if_neg (by omega), if_neg (by omega), if_neg (by omega), if_neg (by omega)]; rfl
theorem dec2 (m b0 b1 b2 b3 : Nat) (h : 192 ≤ b0) (h' : b0 < 224) : stepR (Lib.decodeN m b0 b1 b2 b3) = if 1 < m ∧ b1 / 64 = 2 then finR (((b0 : Int) - 192) * 64 + ((b1 % 64 : Nat) : Int)) 2 else (0, 0) := by
  unfold Lib.decodeN
  rw [if_neg (by omega)]
  by_cases c : 1 < m ∧ b1 / 64 = 2
  · rw [if_pos ⟨by omega, c⟩, if_pos c]
    have e : ((b0 : Int) - 192) * 64 + ((b1 % 64 : Nat) : Int) = ((b0 % 32 * 64 + b1 % 64 : Nat) : Int) := by omega
    rw [e]
    have hv : b0 % 32 * 64 + b1 % 64 < 2048 := by omega
    generalize b0 % 32 * 64 + b1 % 64 = v at *
    by_cases d : v ≥ 128
    · rw [if_pos d, stepR_wide _ _ (by decide), finR_ok _ _ ((chOK_iff _).2 ⟨by omega, by omega, by omega⟩) (by rw [eb_len, if_neg (by omega), if_pos (by omega)])]; rfl
    · rw [if_neg d, stepR_bad, finR_len _ _ (by rw [eb_len, if_pos (by omega)]; decide)]
  · rw [if_neg (fun h => c h.2), if_neg (by omega), if_neg (by omega), if_neg c, stepR_bad]
theorem dec3 (m b0 b1 b2 b3 : Nat) (h : 224 ≤ b0) (h' : b0 < 240) : stepR (Lib.decodeN m b0 b1 b2 b3) = if 2 < m ∧ b1 / 64 = 2 ∧ b2 / 64 = 2 then finR ((((b0 : Int) - 224) * 64 + ((b1 % 64 : Nat) : Int)) * 64 + ((b2 % 64 : Nat) : Int)) 3 else (0, 0) := by
  unfold Lib.decodeN
  rw [if_neg (by omega), if_neg (by omega)]
  by_cases c : 2 < m ∧ b1 / 64 = 2 ∧ b2 / 64 = 2
  · rw [if_pos ⟨by omega, ⟨by omega, c.2.1⟩, c.1, c.2.2⟩, if_pos c]
    have e : (((b0 : Int) - 224) * 64 + ((b1 % 64 : Nat) : Int)) * 64 + ((b2 % 64 : Nat) : Int) = ((b0 % 16 * 4096 + b1 % 64 * 64 + b2 % 64 : Nat) : Int) := by omega
    rw [e]
    have hv : b0 % 16 * 4096 + b1 % 64 * 64 + b2 % 64 < 65536 := by omega
    generalize b0 % 16 * 4096 + b1 % 64 * 64 + b2 % 64 = v at *
    by_cases d : v ≥ 2048
    · by_cases d2 : v < 55296 ∨ 57344 ≤ v ∧ v ≤ 1114111
      · rw [if_pos ⟨d, d2⟩, stepR_wide _ _ (by decide), finR_ok _ _ ((chOK_iff _).2 ⟨by omega, by omega, by omega⟩) (by rw [eb_len, if_neg (by omega), if_neg (by omega), if_pos (by omega)])]; rfl
      · rw [if_neg (fun h => d2 h.2), stepR_bad, finR_ch _ _ (fun h => by have := (chOK_iff _).1 h; omega)]
    · rw [if_neg (fun h => d h.1), stepR_bad, finR_len _ _ (by rw [eb_len]; split <;> (try split) <;> omega)]
  · rw [if_neg (fun h => c ⟨h.2.2.1, h.2.1.2, h.2.2.2⟩), if_neg (by omega), if_neg c, stepR_bad]
theorem dec4 (m b0 b1 b2 b3 : Nat) (h : 240 ≤ b0) (h' : b0 < 256) : stepR (Lib.decodeN m b0 b1 b2 b3) = if 3 < m ∧ b1 / 64 = 2 ∧ b2 / 64 = 2 ∧ b3 / 64 = 2 then finR (((((b0 : Int) - 240) * 64 + ((b1 % 64 : Nat) : Int)) * 64 + ((b2 % 64 : Nat) : Int)) * 64 + ((b3 % 64 : Nat) : Int)) 4 else (0, 0) := by
  unfold Lib.decodeN
  rw [if_neg (by omega), if_neg (by omega), if_neg (by omega)]
  by_cases c : 3 < m ∧ b1 / 64 = 2 ∧ b2 / 64 = 2 ∧ b3 / 64 = 2
  · rw [if_pos c]
    by_cases g : b0 < 248
    · rw [if_pos ⟨by omega, ⟨by omega, c.2.1⟩, ⟨by omega, c.2.2.1⟩, c.1, c.2.2.2⟩]
      have e : ((((b0 : Int) - 240) * 64 + ((b1 % 64 : Nat) : Int)) * 64 + ((b2 % 64 : Nat) : Int)) * 64 + ((b3 % 64 : Nat) : Int) = ((b0 % 8 * 262144 + b1 % 64 * 4096 + b2 % 64 * 64 + b3 % 64 : Nat) : Int) := by omega
      rw [e]
      generalize b0 % 8 * 262144 + b1 % 64 * 4096 + b2 % 64 * 64 + b3 % 64 = v at *
      by_cases d : v ≥ 65536
      · by_cases d2 : v < 55296 ∨ 57344 ≤ v ∧ v ≤ 1114111
        · rw [if_pos ⟨d, d2⟩, stepR_wide _ _ (by decide), finR_ok _ _ ((chOK_iff _).2 ⟨by omega, by omega, by omega⟩) (by rw [eb_len, if_neg (by omega), if_neg (by omega), if_neg (by omega)])]; rfl
        · rw [if_neg (fun h => d2 h.2), stepR_bad, finR_ch _ _ (fun h => by have := (chOK_iff _).1 h; omega)]
      · rw [if_neg (fun h => d h.1), stepR_bad, finR_len _ _ (by rw [eb_len]; split <;> (try split) <;> (try split) <;> omega)]
    · rw [if_neg (by omega), stepR_bad, finR_ch _ _ (fun h => by have := (chOK_iff _).1 h; omega)]
  · rw [if_neg (fun h => c ⟨h.2.2.2.1, h.2.1.2, h.2.2.1.2, h.2.2.2.2⟩), if_neg c, stepR_bad]

theorem at_step (s : ByteArray) (pos : Nat) (hs : s.size ≤ 1048576) (hp : pos < s.size) : Ev (fun k => spec_l01At.f k s (pos : Int)) (stepR (Utf8.decode s pos)) := by
  rw [Lib.decode_at]
  generalize hm : s.size - pos = m
  obtain ⟨b0, hb0⟩ : ∃ b, (s.get! pos).toNat = b := ⟨_, rfl⟩
  obtain ⟨b1, hb1⟩ : ∃ b, (s.get! (pos + 1)).toNat = b := ⟨_, rfl⟩
  obtain ⟨b2, hb2⟩ : ∃ b, (s.get! (pos + 2)).toNat = b := ⟨_, rfl⟩
  obtain ⟨b3, hb3⟩ : ∃ b, (s.get! (pos + 3)).toNat = b := ⟨_, rfl⟩
  have hlt : b0 < 256 := by rw [← hb0]; exact UInt8.toNat_lt _
  rw [hb0, hb1, hb2, hb3]
  have e3 : Aside0 (wrap64 (b0 : Int) = (b0 : Int)) := ⟨w64 (by omega) (by omega)⟩
  unfold spec_l01At.f
  rw [bt_get, hb0, e3.out]
  refine Ev.pos (by omega) (Ev.pos (by omega) ?_)
  by_cases c1 : b0 < 128
  · rw [dec1 m b0 b1 b2 b3 c1]
    exact Ev.pos (by omega) (Ev.now _)
  · refine Ev.neg (by omega) ?_
    by_cases c2 : b0 ≥ 240
    · have e4 : wrap64 ((b0 : Int) - 240) = (b0 : Int) - 240 := w64 (by omega) (by omega)
      rw [dec4 m b0 b1 b2 b3 c2 hlt, e4, ← hm]
      exact Ev.pos (by omega) (at4 s pos _ hs hp (by omega) (by omega) b1 b2 b3 hb1 hb2 hb3)
    · refine Ev.neg (by omega) ?_
      by_cases c3 : b0 ≥ 224
      · have e4 : wrap64 ((b0 : Int) - 224) = (b0 : Int) - 224 := w64 (by omega) (by omega)
        rw [dec3 m b0 b1 b2 b3 c3 (by omega), e4, ← hm]
        exact Ev.pos (by omega) (at3 s pos _ hs hp (by omega) (by omega) b1 b2 hb1 hb2)
      · refine Ev.neg (by omega) ?_
        by_cases c4 : b0 ≥ 192
        · have e4 : wrap64 ((b0 : Int) - 192) = (b0 : Int) - 192 := w64 (by omega) (by omega)
          rw [dec2 m b0 b1 b2 b3 c4 (by omega), e4, ← hm]
          exact Ev.pos (by omega) (at2 s pos _ hs hp (by omega) (by omega) b1 hb1)
        · rw [dec0 m b0 b1 b2 b3 (by omega) (by omega)]
          exact Ev.neg (by omega) (Ev.now _)

/-! ### The whole text -/
def badAt (s : ByteArray) (pos : Nat) : Bool := decide ((Utf8.decode s pos).1 = 65533 ∧ (Utf8.decode s pos).2 = 1)
def validFrom (s : ByteArray) : Nat → Nat → Bool
  | 0, _ => true
  | n + 1, pos => if pos < s.size then (if badAt s pos then false else validFrom s n (pos + (Utf8.decode s pos).2)) else true

theorem decode_len (s : ByteArray) (pos : Nat) : (Utf8.decode s pos).2 ≤ 4 := by
  rw [Lib.decode_at]
  unfold Lib.decodeN
  repeat' split
  all_goals simp

theorem spec_loop (s : ByteArray) (hs : s.size ≤ 1048576) (fuel : Nat) : ∀ (pos : Nat) (acc : List Int), s.size ≤ pos + fuel → acc.length ≤ pos →
    Ev (fun k => spec_l01Decode.l0 k s acc (pos : Int)) (if validFrom s fuel pos then (acc ++ impl_Decode.runes s fuel pos, true) else ([], false)) := by
  induction fuel with
  | zero =>
    intro pos acc h1 h2
    rw [validFrom, if_pos rfl, impl_Decode.runes, List.append_nil]
    refine Ev.step (fun k => ?_) (Ev.now _)
    rw [spec_l01Decode.l0, if_neg (by omega)]
  | succ n ih =>
    intro pos acc h1 h2
    rw [validFrom, impl_Decode.runes]
    by_cases hp : pos < s.size
    · have hat := at_step s pos hs hp
      have hw := Lib.width_pos s pos
      have hw4 := decode_len s pos
      rw [if_pos hp, if_pos hp]
      refine Ev.step (f := fun k => (spec_l01At.f k s (pos : Int)).bind fun bt120 => if bt120.2 = 0 then some ([], false) else if acc.length < 17592186044416 then spec_l01Decode.l0 k s (acc ++ [bt120.1]) (wrap64 ((pos : Int) + bt120.2)) else none) (fun k => by rw [spec_l01Decode.l0, if_pos (by omega)]) (Ev.bind hat ?_)
      by_cases hb : badAt s pos = true
      · rw [if_pos hb]
        have hb' := of_decide_eq_true hb
        have e : stepR (Utf8.decode s pos) = (0, 0) := by unfold stepR; rw [if_pos hb']
        rw [e]
        exact Ev.pos rfl (Ev.now _)
      · rw [if_neg hb]
        have hb' : ¬ ((Utf8.decode s pos).1 = 65533 ∧ (Utf8.decode s pos).2 = 1) := fun h => hb (decide_eq_true h)
        have e : stepR (Utf8.decode s pos) = (((Utf8.decode s pos).1 : Int), ((Utf8.decode s pos).2 : Int)) := by unfold stepR; rw [if_neg hb']
        have e5 : wrap64 ((pos : Int) + ((Utf8.decode s pos).2 : Int)) = ((pos + (Utf8.decode s pos).2 : Nat) : Int) := by rw [w64 (by omega) (by omega)]; omega
        rw [e]
        simp only
        rw [e5]
        refine Ev.neg (by omega) (Ev.pos (by omega) ?_)
        have h' := ih (pos + (Utf8.decode s pos).2) (acc ++ [((Utf8.decode s pos).1 : Int)]) (by omega) (by simp; omega)
        rw [List.append_assoc] at h'
        exact h'
    · rw [if_neg hp, if_pos rfl, if_neg hp, List.append_nil]
      refine Ev.step (fun k => ?_) (Ev.now _)
      rw [spec_l01Decode.l0, if_neg (by omega)]

theorem decode_drop (s : ByteArray) (pos : Nat) : Lib.decodeL (s.data.toList.drop pos) = Utf8.decode s pos := by
  unfold Lib.decodeL
  have hsz : (⟨(s.data.toList.drop pos).toArray⟩ : ByteArray).size = s.size - pos := by
    show (s.data.toList.drop pos).toArray.size = _
    rw [List.size_toArray, List.length_drop, data_length]
  have hg : ∀ j, (⟨(s.data.toList.drop pos).toArray⟩ : ByteArray).get! j = s.get! (pos + j) := by
    intro j
    rw [← Lib.getD_get!', ← Lib.getD_get!']
    show (s.data.toList.drop pos).getD j 0 = _
    rw [List.getD_eq_getElem?_getD, List.getD_eq_getElem?_getD, List.getElem?_drop]
  rw [Lib.decode_at, Lib.decode_at, hsz, hg, hg, hg, hg]; rfl

theorem valid_from (s : ByteArray) (fuel : Nat) : ∀ pos : Nat, s.size ≤ pos + fuel → Lib.validD (s.data.toList.drop pos) = validFrom s fuel pos := by
  induction fuel with
  | zero =>
    intro pos h
    rw [List.drop_of_length_le (by rw [data_length]; omega), validFrom]; rfl
  | succ n ih =>
    intro pos h
    rw [validFrom]
    by_cases hp : pos < s.size
    · have hne : s.data.toList.drop pos ≠ [] := by
        intro e
        have := congrArg List.length e
        rw [List.length_drop, data_length] at this
        simp at this; omega
      have hw := Lib.width_pos s pos
      rw [if_pos hp, Lib.validD_step _ hne, decode_drop, List.drop_drop, ih (pos + (Utf8.decode s pos).2) (by omega)]
      unfold badAt
      by_cases hb : (Utf8.decode s pos).1 = 65533 ∧ (Utf8.decode s pos).2 = 1
      · rw [if_pos hb, decide_eq_true hb]; rfl
      · rw [if_neg hb, decide_eq_false hb]; rfl
    · rw [if_neg hp, List.drop_of_length_le (by rw [data_length]; omega)]; rfl

theorem valid_all (s : ByteArray) : Lib.validD s.data.toList = validFrom s s.size 0 := by
  have := valid_from s s.size 0 (by omega)
  rwa [List.drop_zero] at this

/-- What both tell of a text. -/
def decTell (s : ByteArray) : List Int × Int := if (s.size : Int) > 65536 then ([], 2) else if Lib.validD s.data.toList = true then (impl_Decode.runes s s.size 0, 0) else ([], 3)
theorem impl_Decode_eq (s : ByteArray) : impl_Decode.f s = some (decTell s) := by
  unfold impl_Decode.f decTell
  split
  · rfl
  · split <;> rfl
theorem runes_length (s : ByteArray) (fuel : Nat) : ∀ pos, (impl_Decode.runes s fuel pos).length ≤ fuel := by
  induction fuel with
  | zero => intro pos; simp [impl_Decode.runes]
  | succ n ih =>
    intro pos
    rw [impl_Decode.runes]
    split
    · rw [List.length_cons]; have := ih (pos + (Utf8.decode s pos).2); omega
    · simp
theorem decTell_length (s : ByteArray) : (decTell s).1.length ≤ 65536 := by
  unfold decTell
  split
  · simp
  · split
    · have := runes_length s s.size 0; simp only; omega
    · simp
theorem l01Decode_eq (s : ByteArray) (hs : s.size ≤ 1048576) : Ev (fun k => spec_l01Decode.f k s) (if Lib.validD s.data.toList = true then (impl_Decode.runes s s.size 0, true) else ([], false)) := by
  have h := spec_loop s hs s.size 0 [] (by omega) (by simp)
  rw [List.nil_append] at h
  rw [valid_all]
  exact h
theorem spec_Decode_eq (s : ByteArray) : Ev (fun k => spec_Decode.f k s) (decTell s) := by
  unfold spec_Decode.f decTell
  by_cases hb : (s.size : Int) > 65536
  · rw [if_pos hb]; exact Ev.pos hb (Ev.now _)
  · rw [if_neg hb]
    refine Ev.neg hb (Ev.bind (l01Decode_eq s (by omega)) ?_)
    by_cases hv : Lib.validD s.data.toList = true
    · rw [if_pos hv, if_pos hv]; exact Ev.pos rfl (Ev.now _)
    · rw [if_neg hv, if_neg hv]; exact Ev.neg Bool.false_ne_true (Ev.now _)

theorem n0 : ((0 : Nat) : Int) = 0 := rfl
theorem rd138 (xs : List S138) (i : Nat) (hi : i < xs.length) : rd_T138 xs (i : Int) = xs[i] := by unfold rd_T138; rw [Int.toNat_natCast, getD_in xs _ i hi]
theorem rd136 (xs : List S136) (i : Nat) (hi : i < xs.length) : rd_T136 xs (i : Int) = xs[i] := by unfold rd_T136; rw [Int.toNat_natCast, getD_in xs _ i hi]
theorem rd164 (xs : List S164) (i : Nat) (hi : i < xs.length) : rd_T164 xs (i : Int) = xs[i] := by unfold rd_T164; rw [Int.toNat_natCast, getD_in xs _ i hi]
theorem rd133 (xs : List S133) (i : Nat) (hi : i < xs.length) : rd_T133 xs (i : Int) = xs[i] := by unfold rd_T133; rw [Int.toNat_natCast, getD_in xs _ i hi]
def toArc (x : S164) : S138 := ⟨x.f0, x.f1⟩
def toSt (x : S133) : S136 := ⟨x.f0, x.f1.map toArc, x.f2⟩

theorem toArcs_eq (l : List S164) (h : l.length ≤ 1048576) : Ev (fun k => laws_toDfaArcS.f k l) (l.map toArc) := by
  unfold laws_toDfaArcS.f
  refine Ev.pos (by omega) (Ev.pos (by omega) ?_)
  rw [Int.toNat_natCast]
  refine conv_all laws_toDfaArcS.l0 l toArc z138 (fun i hi ys r hl hr => ?_) (fun ys => ?_)
  · have e1 : Aside0 (wrap64 ((i : Int) + 1) = ((i + 1 : Nat) : Int)) := ⟨by rw [w64 (by omega) (by omega)]; omega⟩
    refine Ev.step (fun k => ?_) hr
    rw [laws_toDfaArcS.l0, if_pos (by omega), if_pos (by omega), rd164 l i hi]
    simp only [laws_toDfaArc.f, Option.bind_some]
    rw [if_pos (by omega), e1.out, Int.toNat_natCast]; rfl
  · refine Ev.step (fun k => ?_) (Ev.now _)
    rw [laws_toDfaArcS.l0, if_neg (by omega)]

theorem toStates_eq (l : List S133) (h : l.length ≤ 1048576) (ha : ∀ x ∈ l, x.f1.length ≤ 1048576) : Ev (fun k => laws_toDfaStateS.f k l) (l.map toSt) := by
  unfold laws_toDfaStateS.f
  refine Ev.pos (by omega) (Ev.pos (by omega) ?_)
  rw [Int.toNat_natCast]
  refine conv_all laws_toDfaStateS.l0 l toSt z136 (fun i hi ys r hl hr => ?_) (fun ys => ?_)
  · have e1 : Aside0 (wrap64 ((i : Int) + 1) = ((i + 1 : Nat) : Int)) := ⟨by rw [w64 (by omega) (by omega)]; omega⟩
    have hst : Ev (fun k => laws_toDfaState.f k l[i].f0 l[i].f1 l[i].f2) (l[i].f0, l[i].f1.map toArc, l[i].f2) := by
      unfold laws_toDfaState.f
      exact Ev.bind (toArcs_eq _ (ha _ (List.getElem_mem hi))) (Ev.now _)
    refine Ev.step (f := fun k => (laws_toDfaState.f k l[i].f0 l[i].f1 l[i].f2).bind fun bt => laws_toDfaStateS.l0 k l (ys.set i (⟨bt.1, bt.2.1, bt.2.2⟩ : S136)) ((i + 1 : Nat) : Int)) (fun k => ?_) (Ev.bind hst hr)
    have c2 : (i : Int) < (ys.length : Int) := by omega
    rw [laws_toDfaStateS.l0, if_pos (by omega), if_pos (by omega), rd133 l i hi, e1.out, Int.toNat_natCast]
    simp only [if_pos c2]
  · refine Ev.step (fun k => ?_) (Ev.now _)
    rw [laws_toDfaStateS.l0, if_neg (by omega)]

theorem toDfa_eq (l : List S133) (h : l.length ≤ 1048576) (ha : ∀ x ∈ l, x.f1.length ≤ 1048576) : Ev (fun k => laws_toDfa.f k l) (l.map toSt) := by
  unfold laws_toDfa.f
  exact Ev.bind (toStates_eq l h ha) (Ev.now _)

theorem eqArcs (l : List S138) (h : l.length ≤ 1048576) : Ev (fun k => laws_eqDfaArcS.f k l l) true := by
  unfold laws_eqDfaArcS.f
  refine Ev.pos rfl (same_all laws_eqDfaArcS.l0 l (fun i hi hr => ?_) ?_)
  · have e1 : Aside0 (wrap64 ((i : Int) + 1) = ((i + 1 : Nat) : Int)) := ⟨by rw [w64 (by omega) (by omega)]; omega⟩
    refine Ev.step (fun k => ?_) hr
    rw [laws_eqDfaArcS.l0, if_pos (by omega), if_pos (by omega), if_pos (by omega), rd138 l i hi, e1.out]
    simp [laws_eqDfaArc.f]
  · refine Ev.step (fun k => ?_) (Ev.now _)
    rw [laws_eqDfaArcS.l0, if_neg (by omega)]

theorem eqStates (l : List S136) (h : l.length ≤ 1048576) (ha : ∀ x ∈ l, x.f1.length ≤ 1048576) : Ev (fun k => laws_eqDfaStateS.f k l l) true := by
  unfold laws_eqDfaStateS.f
  refine Ev.pos rfl (same_all laws_eqDfaStateS.l0 l (fun i hi hr => ?_) ?_)
  · have e1 : Aside0 (wrap64 ((i : Int) + 1) = ((i + 1 : Nat) : Int)) := ⟨by rw [w64 (by omega) (by omega)]; omega⟩
    have hst : Ev (fun k => laws_eqDfaState.f k l[i].f0 l[i].f1 l[i].f2 l[i].f0 l[i].f1 l[i].f2) true := by
      unfold laws_eqDfaState.f
      refine Ev.neg (by simp) ?_
      exact Ev.bind (eqArcs _ (ha _ (List.getElem_mem hi))) (Ev.pos rfl (Ev.pos rfl (Ev.now _)))
    refine Ev.step (f := fun k => (laws_eqDfaState.f k l[i].f0 l[i].f1 l[i].f2 l[i].f0 l[i].f1 l[i].f2).bind fun t => if t = true then laws_eqDfaStateS.l0 k l l ((i + 1 : Nat) : Int) else some false) (fun k => ?_) (Ev.bind hst (Ev.pos rfl hr))
    rw [laws_eqDfaStateS.l0, if_pos (by omega), if_pos (by omega), if_pos (by omega), rd136 l i hi, e1.out]
  · refine Ev.step (fun k => ?_) (Ev.now _)
    rw [laws_eqDfaStateS.l0, if_neg (by omega)]

theorem eqDfa_eq (l : List S136) (h : l.length ≤ 1048576) (ha : ∀ x ∈ l, x.f1.length ≤ 1048576) : Ev (fun k => laws_eqDfa.f k l l) true := by
  unfold laws_eqDfa.f
  exact Ev.bind (eqStates l h ha) (Ev.pos rfl (Ev.now _))

/-! ### The law's measure -/
theorem szArcs (l : List S164) (hl : l.length ≤ 9223372036854775807) (a : Int) (h0 : 0 ≤ a) (h1 : a ≤ 1048576) : ∃ r, laws_szDfaArcS.f l a = some r ∧ (r = -1 ∨ (0 ≤ r ∧ r ≤ a ∧ l.length ≤ 1048576)) := by
  unfold laws_szDfaArcS.f
  have e : Aside0 (wrap64 (a - (l.length : Int)) = a - (l.length : Int)) := ⟨w64 (by omega) (by omega)⟩
  rw [e.out]
  by_cases c : a - (l.length : Int) < 0
  · exact ⟨-1, by rw [if_pos c], .inl rfl⟩
  · exact ⟨_, by rw [if_neg c], .inr ⟨by omega, by omega, by omega⟩⟩

theorem szLoop (x0 : List S133) (hx : x0.length ≤ 1048576) (ha : ∀ x ∈ x0, x.f1.length ≤ 9223372036854775807) (d : Nat) : ∀ (i : Nat) (a : Int), i + d = x0.length → 0 ≤ a → a ≤ 1048576 →
    ∃ r, Ev (fun k => laws_szDfaStateS.l0 k x0 a (i : Int)) r ∧ (r = -1 ∨ (0 ≤ r ∧ ∀ j (hj : j < x0.length), i ≤ j → x0[j].f1.length ≤ 1048576)) := by
  induction d with
  | zero =>
    intro i a hi h0 h1
    refine ⟨a, Ev.step (fun k => ?_) (Ev.now _), .inr ⟨h0, fun j hj hij => by omega⟩⟩
    rw [laws_szDfaStateS.l0, if_neg (by omega)]
  | succ d ih =>
    intro i a hi h0 h1
    have hlt : i < x0.length := by omega
    have e1 : Aside0 (wrap64 ((i : Int) + 1) = ((i + 1 : Nat) : Int)) := ⟨by rw [w64 (by omega) (by omega)]; omega⟩
    obtain ⟨r, hr, hc⟩ := szArcs x0[i].f1 (ha _ (List.getElem_mem hlt)) a h0 h1
    have c1 : (i : Int) < (x0.length : Int) := by omega
    rcases hc with rfl | ⟨q0, q1, q2⟩
    · refine ⟨-1, Ev.step (fun k => ?_) (Ev.now _), .inl rfl⟩
      rw [laws_szDfaStateS.l0, if_pos c1, if_pos (by omega), rd133 x0 i hlt, laws_szDfaState.f, hr]; rfl
    · obtain ⟨r2, h2, h3⟩ := ih (i + 1) r (by omega) q0 (by omega)
      have hn : ¬ r < 0 := by omega
      refine ⟨r2, Ev.step (fun k => ?_) h2, ?_⟩
      · rw [laws_szDfaStateS.l0, if_pos c1, if_pos (by omega), rd133 x0 i hlt, laws_szDfaState.f, hr, Option.bind_some, if_neg hn, Option.bind_some, if_neg hn, e1.out]
      · rcases h3 with h3 | ⟨h3, h4⟩
        · exact .inl h3
        · refine .inr ⟨h3, fun j hj hij => ?_⟩
          by_cases e : j = i
          · subst e; exact q2
          · exact h4 j hj (by omega)

theorem szDfa_eq (l : List S133) (hl : l.length ≤ 9223372036854775807) (ha : ∀ x ∈ l, x.f1.length ≤ 9223372036854775807) :
    Ev (fun k => laws_szDfa.f k l 1048576) (-1) ∨ ∃ r, Ev (fun k => laws_szDfa.f k l 1048576) r ∧ 0 ≤ r ∧ l.length ≤ 1048576 ∧ ∀ x ∈ l, x.f1.length ≤ 1048576 := by
  have e : Aside0 (wrap64 (1048576 - (l.length : Int)) = 1048576 - (l.length : Int)) := ⟨w64 (by omega) (by omega)⟩
  unfold laws_szDfa.f laws_szDfaStateS.f
  rw [e.out]
  by_cases c : 1048576 - (l.length : Int) < 0
  · left
    exact Ev.bind (Ev.pos c (Ev.now _)) (Ev.pos (by decide) (Ev.now _))
  · obtain ⟨r, hr, hc⟩ := szLoop l (by omega) ha l.length 0 (1048576 - (l.length : Int)) (by omega) (by omega) (by omega)
    rw [n0] at hr
    rcases hc with rfl | ⟨q0, q1⟩
    · left
      exact Ev.bind (Ev.neg c hr) (Ev.pos (by decide) (Ev.now _))
    · right
      refine ⟨r, Ev.bind (Ev.neg c hr) (Ev.neg (by omega) (Ev.now _)), q0, by omega, fun x hx => ?_⟩
      obtain ⟨j, hj, rfl⟩ := List.getElem_of_mem hx
      exact q1 j hj (by omega)

/-! ### The automaton's own look -/
theorem spec_ch (a : Int) : spec_l01CharOK.f a = some (chOK a) := by
  unfold spec_l01CharOK.f chOK
  repeat' split
  all_goals first | (congr 1; rw [Bool.eq_iff_iff]; simp; omega) | (congr 1; simp; done) | (congr 1; simp; omega)
theorem impl_ch (a : Int) : impl_isChar.f a = some (chOK a) := by
  unfold impl_isChar.f chOK
  repeat' split
  all_goals first | (congr 1; rw [Bool.eq_iff_iff]; simp; omega) | (congr 1; simp; done) | (congr 1; simp; omega)
def lastOf (arcs : List S138) (kk : Nat) : Int := if kk = 0 then -1 else (rd_T138 arcs ((kk - 1 : Nat) : Int)).f0
def arcOK (n : Int) (arcs : List S138) (kk : Nat) : Bool := chOK (rd_T138 arcs (kk : Int)).f0 && decide (lastOf arcs kk < (rd_T138 arcs (kk : Int)).f0 ∧ -1 ≤ (rd_T138 arcs (kk : Int)).f1 ∧ (rd_T138 arcs (kk : Int)).f1 < n)
def arcsFrom (n : Int) (arcs : List S138) : Nat → Nat → Bool
  | 0, _ => true
  | d + 1, kk => arcOK n arcs kk && arcsFrom n arcs d (kk + 1)
theorem ch_nonneg (a : Int) (h : chOK a = true) : 0 ≤ a := by
  simp only [chOK, decide_eq_true_eq] at h; exact h.1

theorem spec_arcs (n : Int) (i : Nat) (hi : i ≤ 1048576) (all : List S136) (f0 : Bool) (arcs : List S138) (f2 : Int) (ha : arcs.length ≤ 1048576) (r : Bool) (hr : Ev (fun k => spec_DfaOK.l0 k n ((i + 1 : Nat) : Int) all) r) (d : Nat) : ∀ kk : Nat, kk + d = arcs.length →
    Ev (fun k => spec_DfaOK.l1 k n (i : Int) (kk : Int) all f0 arcs f2) (arcsFrom n arcs d kk && r) := by
  have e0 : Aside0 (wrap64 ((i : Int) + 1) = ((i + 1 : Nat) : Int)) := ⟨by rw [w64 (by omega) (by omega)]; omega⟩
  induction d with
  | zero =>
    intro kk hk
    rw [arcsFrom, Bool.true_and]
    refine Ev.step (fun k => ?_) hr
    rw [spec_DfaOK.l1, if_neg (by omega), e0.out]
  | succ d ih =>
    intro kk hk
    have e1 : Aside0 (wrap64 ((kk : Int) + 1) = ((kk + 1 : Nat) : Int)) := ⟨by rw [w64 (by omega) (by omega)]; omega⟩
    have c1 : (kk : Int) < (arcs.length : Int) := by omega
    have h' := ih (kk + 1) (by omega)
    rw [arcsFrom, arcOK]
    generalize hx : (rd_T138 arcs (kk : Int)).f0 = x at *
    generalize hy : (rd_T138 arcs (kk : Int)).f1 = y at *
    by_cases c2 : chOK x = true
    · rw [c2, Bool.true_and]
      by_cases c3 : y < -1
      · rw [decide_eq_false (by omega), Bool.false_and, Bool.false_and]
        refine Ev.step (fun k => ?_) (Ev.now _)
        rw [spec_DfaOK.l1, if_pos c1, if_pos (by omega), hx, spec_ch, Option.bind_some, if_pos c2, hy, if_pos c3]
      · by_cases c4 : y ≥ n
        · rw [decide_eq_false (by omega), Bool.false_and, Bool.false_and]
          refine Ev.step (fun k => ?_) (Ev.now _)
          rw [spec_DfaOK.l1, if_pos c1, if_pos (by omega), hx, spec_ch, Option.bind_some, if_pos c2, hy, if_neg c3, if_pos c4]
        · by_cases c5 : kk = 0
          · have hl : lastOf arcs kk = -1 := by unfold lastOf; rw [if_pos c5]
            have := ch_nonneg x c2
            rw [hl, decide_eq_true (by omega), Bool.true_and]
            refine Ev.step (fun k => ?_) h'
            rw [spec_DfaOK.l1, if_pos c1, if_pos (by omega), hx, spec_ch, Option.bind_some, if_pos c2, hy, if_neg c3, if_neg c4, if_neg (by omega), e1.out]
          · have e2 : Aside0 (wrap64 ((kk : Int) - 1) = ((kk - 1 : Nat) : Int)) := ⟨by rw [w64 (by omega) (by omega)]; omega⟩
            have hl : lastOf arcs kk = (rd_T138 arcs ((kk - 1 : Nat) : Int)).f0 := by unfold lastOf; rw [if_neg c5]
            rw [hl]
            generalize hz : (rd_T138 arcs ((kk - 1 : Nat) : Int)).f0 = z at *
            by_cases c6 : x ≤ z
            · rw [decide_eq_false (by omega), Bool.false_and, Bool.false_and]
              refine Ev.step (fun k => ?_) (Ev.now _)
              rw [spec_DfaOK.l1, if_pos c1, if_pos (by omega), hx, spec_ch, Option.bind_some, if_pos c2, hy, if_neg c3, if_neg c4, if_pos (by omega), e2.out, if_pos (by omega), if_pos (by omega), hz, if_pos c6]
            · rw [decide_eq_true (by omega), Bool.true_and]
              refine Ev.step (fun k => ?_) h'
              rw [spec_DfaOK.l1, if_pos c1, if_pos (by omega), hx, spec_ch, Option.bind_some, if_pos c2, hy, if_neg c3, if_neg c4, if_pos (by omega), e2.out, if_pos (by omega), if_pos (by omega), hz, if_neg c6, e1.out]
    · have c2' : chOK x = false := by simpa using c2
      rw [c2', Bool.false_and, Bool.false_and, Bool.false_and]
      refine Ev.step (fun k => ?_) (Ev.now _)
      rw [spec_DfaOK.l1, if_pos c1, if_pos (by omega), hx, spec_ch, Option.bind_some, if_neg c2]

theorem impl_arcs (n : Int) (i : Nat) (hi : i ≤ 1048576) (all : List S136) (m : Int) (arcs : List S138) (ha : arcs.length ≤ 1048576) (r : Bool) (hr : Ev (fun k => impl_DfaOK.l0 k n all m ((i + 1 : Nat) : Int)) r) (d : Nat) : ∀ kk : Nat, kk + d = arcs.length →
    Ev (fun k => impl_DfaOK.l1 k n (lastOf arcs kk) all m (i : Int) arcs (arcs.length : Int) (kk : Int)) (arcsFrom n arcs d kk && r) := by
  have e0 : Aside0 (wrap64 ((i : Int) + 1) = ((i + 1 : Nat) : Int)) := ⟨by rw [w64 (by omega) (by omega)]; omega⟩
  induction d with
  | zero =>
    intro kk hk
    rw [arcsFrom, Bool.true_and]
    refine Ev.step (fun k => ?_) hr
    rw [impl_DfaOK.l1, if_neg (by omega), e0.out]
  | succ d ih =>
    intro kk hk
    have e1 : Aside0 (wrap64 ((kk : Int) + 1) = ((kk + 1 : Nat) : Int)) := ⟨by rw [w64 (by omega) (by omega)]; omega⟩
    have c1 : (kk : Int) < (arcs.length : Int) := by omega
    have h' := ih (kk + 1) (by omega)
    have hl : lastOf arcs (kk + 1) = (rd_T138 arcs (kk : Int)).f0 := by unfold lastOf; rw [if_neg (by omega), show kk + 1 - 1 = kk by omega]
    rw [hl] at h'
    rw [arcsFrom, arcOK]
    generalize lastOf arcs kk = z at *
    generalize hx : (rd_T138 arcs (kk : Int)).f0 = x at *
    generalize hy : (rd_T138 arcs (kk : Int)).f1 = y at *
    by_cases c2 : chOK x = true
    · rw [c2, Bool.true_and]
      by_cases c6 : x ≤ z
      · rw [decide_eq_false (by omega), Bool.false_and, Bool.false_and]
        refine Ev.step (fun k => ?_) (Ev.now _)
        rw [impl_DfaOK.l1, if_pos c1, if_pos (by omega), if_pos c1, hx, impl_ch, Option.bind_some, if_pos c2, if_pos c6]
      · by_cases c3 : y < -1
        · rw [decide_eq_false (by omega), Bool.false_and, Bool.false_and]
          refine Ev.step (fun k => ?_) (Ev.now _)
          rw [impl_DfaOK.l1, if_pos c1, if_pos (by omega), if_pos c1, hx, impl_ch, Option.bind_some, if_pos c2, if_neg c6, hy, if_pos c3]
        · by_cases c4 : y ≥ n
          · rw [decide_eq_false (by omega), Bool.false_and, Bool.false_and]
            refine Ev.step (fun k => ?_) (Ev.now _)
            rw [impl_DfaOK.l1, if_pos c1, if_pos (by omega), if_pos c1, hx, impl_ch, Option.bind_some, if_pos c2, if_neg c6, hy, if_neg c3, if_pos c4]
          · rw [decide_eq_true (by omega), Bool.true_and]
            refine Ev.step (fun k => ?_) h'
            rw [impl_DfaOK.l1, if_pos c1, if_pos (by omega), if_pos c1, hx, impl_ch, Option.bind_some, if_pos c2, if_neg c6, hy, if_neg c3, if_neg c4, e1.out]
    · have c2' : chOK x = false := by simpa using c2
      rw [c2', Bool.false_and, Bool.false_and, Bool.false_and]
      refine Ev.step (fun k => ?_) (Ev.now _)
      rw [impl_DfaOK.l1, if_pos c1, if_pos (by omega), if_pos c1, hx, impl_ch, Option.bind_some, if_neg c2]

def stOK (n : Int) (s : S136) : Bool := decide (-1 ≤ s.f2 ∧ s.f2 < n ∧ s.f1.length ≤ 4096) && arcsFrom n s.f1 s.f1.length 0
def statesFrom (n : Int) (l : List S136) : Nat → Nat → Bool
  | 0, _ => true
  | d + 1, i => stOK n (rd_T136 l (i : Int)) && statesFrom n l d (i + 1)

theorem spec_states (l : List S136) (hl : l.length ≤ 1048576) (d : Nat) : ∀ i : Nat, i + d = l.length → Ev (fun k => spec_DfaOK.l0 k (l.length : Int) (i : Int) l) (statesFrom (l.length : Int) l d i) := by
  induction d with
  | zero =>
    intro i hi
    refine Ev.step (fun k => ?_) (Ev.now _)
    rw [spec_DfaOK.l0, if_neg (by omega)]; rfl
  | succ d ih =>
    intro i hi
    have c1 : (i : Int) < (l.length : Int) := by omega
    have h' := ih (i + 1) (by omega)
    rw [statesFrom, stOK]
    generalize hs : rd_T136 l (i : Int) = s at *
    by_cases c2 : s.f2 < -1
    · rw [decide_eq_false (by omega), Bool.false_and, Bool.false_and]
      refine Ev.steps 2 (fun k => ?_) (Ev.now _)
      rw [spec_DfaOK.l0, if_pos c1, if_pos (by omega), if_pos c1, hs, if_pos c2, spec_DfaOK.j2, if_pos rfl]
    · by_cases c3 : s.f2 ≥ (l.length : Int)
      · rw [decide_eq_false (by omega), Bool.false_and, Bool.false_and]
        refine Ev.steps 2 (fun k => ?_) (Ev.now _)
        rw [spec_DfaOK.l0, if_pos c1, if_pos (by omega), if_pos c1, hs, if_neg c2, if_pos c3, spec_DfaOK.j2, if_pos rfl]
      · by_cases c4 : s.f1.length ≤ 4096
        · rw [decide_eq_true (by omega), Bool.true_and]
          have ha := spec_arcs (l.length : Int) i (by omega) l s.f0 s.f1 s.f2 (by omega) _ h' s.f1.length 0 (by omega)
          rw [n0] at ha
          refine Ev.steps 2 (fun k => ?_) ha
          rw [spec_DfaOK.l0, if_pos c1, if_pos (by omega), if_pos c1, hs, if_neg c2, if_neg c3, decide_eq_false (by omega), spec_DfaOK.j2, if_neg Bool.false_ne_true]
        · rw [decide_eq_false (by omega), Bool.false_and, Bool.false_and]
          refine Ev.steps 2 (fun k => ?_) (Ev.now _)
          rw [spec_DfaOK.l0, if_pos c1, if_pos (by omega), if_pos c1, hs, if_neg c2, if_neg c3, decide_eq_true (by omega), spec_DfaOK.j2, if_pos rfl]

theorem impl_states (l : List S136) (hl : l.length ≤ 1048576) (d : Nat) : ∀ i : Nat, i + d = l.length → Ev (fun k => impl_DfaOK.l0 k (l.length : Int) l (l.length : Int) (i : Int)) (statesFrom (l.length : Int) l d i) := by
  induction d with
  | zero =>
    intro i hi
    refine Ev.step (fun k => ?_) (Ev.now _)
    rw [impl_DfaOK.l0, if_neg (by omega)]; rfl
  | succ d ih =>
    intro i hi
    have c1 : (i : Int) < (l.length : Int) := by omega
    have h' := ih (i + 1) (by omega)
    rw [statesFrom, stOK]
    generalize hs : rd_T136 l (i : Int) = s at *
    by_cases c2 : s.f2 < -1
    · rw [decide_eq_false (by omega), Bool.false_and, Bool.false_and]
      refine Ev.steps 2 (fun k => ?_) (Ev.now _)
      rw [impl_DfaOK.l0, if_pos c1, if_pos (by omega), if_pos c1, hs, if_pos c2, impl_DfaOK.j2, if_pos rfl]
    · by_cases c3 : s.f2 ≥ (l.length : Int)
      · rw [decide_eq_false (by omega), Bool.false_and, Bool.false_and]
        refine Ev.steps 2 (fun k => ?_) (Ev.now _)
        rw [impl_DfaOK.l0, if_pos c1, if_pos (by omega), if_pos c1, hs, if_neg c2, if_pos c3, impl_DfaOK.j2, if_pos rfl]
      · by_cases c4 : s.f1.length ≤ 4096
        · rw [decide_eq_true (by omega), Bool.true_and]
          have ha := impl_arcs (l.length : Int) i (by omega) l (l.length : Int) s.f1 (by omega) _ h' s.f1.length 0 (by omega)
          have hz : lastOf s.f1 0 = -1 := rfl
          rw [n0, hz] at ha
          refine Ev.steps 2 (fun k => ?_) ha
          rw [impl_DfaOK.l0, if_pos c1, if_pos (by omega), if_pos c1, hs, if_neg c2, if_neg c3, decide_eq_false (by omega), impl_DfaOK.j2, if_neg Bool.false_ne_true]
        · rw [decide_eq_false (by omega), Bool.false_and, Bool.false_and]
          refine Ev.steps 2 (fun k => ?_) (Ev.now _)
          rw [impl_DfaOK.l0, if_pos c1, if_pos (by omega), if_pos c1, hs, if_neg c2, if_neg c3, decide_eq_true (by omega), impl_DfaOK.j2, if_pos rfl]

theorem ok_both (l : List S136) (hl : l.length ≤ 1048576) : ∃ b, Ev (fun k => spec_DfaOK.f k l) b ∧ Ev (fun k => impl_DfaOK.f k l) b := by
  have h1 := spec_states l hl l.length 0 (by omega)
  have h2 := impl_states l hl l.length 0 (by omega)
  rw [n0] at h1 h2
  unfold spec_DfaOK.f impl_DfaOK.f
  by_cases c1 : (l.length : Int) < 1
  · refine ⟨false, Ev.pos c1 (Ev.step (fun k => ?_) (Ev.now _)), Ev.pos c1 (Ev.step (fun k => ?_) (Ev.now _))⟩
    · rw [spec_DfaOK.j0, if_pos rfl]
    · rw [impl_DfaOK.j0, if_pos rfl]
  · by_cases c2 : (l.length : Int) > 256
    · refine ⟨false, Ev.neg c1 (Ev.step (fun k => ?_) (Ev.now _)), Ev.neg c1 (Ev.step (fun k => ?_) (Ev.now _))⟩
      · rw [spec_DfaOK.j0, decide_eq_true c2, if_pos rfl]
      · rw [impl_DfaOK.j0, decide_eq_true c2, if_pos rfl]
    · refine ⟨_, Ev.neg c1 (Ev.step (fun k => ?_) h1), Ev.neg c1 (Ev.step (fun k => ?_) h2)⟩
      · rw [spec_DfaOK.j0, decide_eq_false c2, if_neg Bool.false_ne_true]
      · rw [impl_DfaOK.j0, decide_eq_false c2, if_neg Bool.false_ne_true]


theorem statesFrom_all (n : Int) (l : List S136) (d : Nat) : ∀ i, statesFrom n l d i = true → ∀ j, i ≤ j → j < i + d → stOK n (rd_T136 l (j : Int)) = true := by
  induction d with
  | zero => intro i _ j h1 h2; omega
  | succ d ih =>
    intro i h j h1 h2
    rw [statesFrom, Bool.and_eq_true] at h
    by_cases e : j = i
    · rw [e]; exact h.1
    · exact ih (i + 1) h.2 j (by omega) (by omega)
theorem arcsFrom_all (n : Int) (l : List S138) (d : Nat) : ∀ i, arcsFrom n l d i = true → ∀ j, i ≤ j → j < i + d → arcOK n l j = true := by
  induction d with
  | zero => intro i _ j h1 h2; omega
  | succ d ih =>
    intro i h j h1 h2
    rw [arcsFrom, Bool.and_eq_true] at h
    by_cases e : j = i
    · rw [e]; exact h.1
    · exact ih (i + 1) h.2 j (by omega) (by omega)
def arcFind (arcs : List S138) (c other : Int) : Nat → Nat → Int
  | 0, _ => other
  | d + 1, i => if (rd_T138 arcs (i : Int)).f0 = c then (rd_T138 arcs (i : Int)).f1 else arcFind arcs c other d (i + 1)
theorem arcFind_lt (n : Int) (arcs : List S138) (c other : Int) (ho : other < n) (ha : ∀ j, j < arcs.length → arcOK n arcs j = true) (d : Nat) : ∀ i, i + d = arcs.length → arcFind arcs c other d i < n := by
  induction d with
  | zero => intro i _; exact ho
  | succ d ih =>
    intro i hi
    rw [arcFind]
    split
    · have h := ha i (by omega)
      rw [arcOK, Bool.and_eq_true] at h
      have := of_decide_eq_true h.2
      exact this.2.2
    · exact ih (i + 1) (by omega)
theorem wnA (i : Nat) (h : i ≤ 281474976710656) : wrap64 ((i : Int) + 1) = ((i + 1 : Nat) : Int) := by rw [w64 (by omega) (by omega)]; omega
theorem spec_find (l : List S136) (a : Nat) (ha : a < l.length) (c : Int) (hl : (rd_T136 l (a : Int)).f1.length ≤ 1048576) (d : Nat) : ∀ i, i + d = (rd_T136 l (a : Int)).f1.length →
    Ev (fun k => spec_l05Step.l0 k (a : Int) c (i : Int) l) (arcFind (rd_T136 l (a : Int)).f1 c (rd_T136 l (a : Int)).f2 d i) := by
  induction d with
  | zero =>
    intro i hi
    refine Ev.step (fun k => ?_) (Ev.now _)
    rw [spec_l05Step.l0, if_pos (by omega), if_pos (by omega), if_neg (by omega)]; rfl
  | succ d ih =>
    intro i hi
    rw [arcFind]
    by_cases e : (rd_T138 (rd_T136 l (a : Int)).f1 (i : Int)).f0 = c
    · rw [if_pos e]
      refine Ev.step (fun k => ?_) (Ev.now _)
      rw [spec_l05Step.l0, if_pos (by omega), if_pos (by omega), if_pos (by omega), if_pos (by omega), if_pos e]
    · rw [if_neg e]
      refine Ev.step (fun k => ?_) (ih (i + 1) (by omega))
      rw [spec_l05Step.l0, if_pos (by omega), if_pos (by omega), if_pos (by omega), if_pos (by omega), if_neg e, wnA i (by omega)]
theorem impl_find (arcs : List S138) (c : Int) (f0 : Bool) (f2 : Int) (hl : arcs.length ≤ 1048576) (d : Nat) : ∀ i, i + d = arcs.length →
    Ev (fun k => impl_Dfa_next.l0 k c arcs (arcs.length : Int) (i : Int) f0 arcs f2) (arcFind arcs c f2 d i) := by
  induction d with
  | zero =>
    intro i hi
    refine Ev.step (fun k => ?_) (Ev.now _)
    rw [impl_Dfa_next.l0, if_neg (by omega)]; rfl
  | succ d ih =>
    intro i hi
    rw [arcFind]
    by_cases e : (rd_T138 arcs (i : Int)).f0 = c
    · rw [if_pos e]
      refine Ev.step (fun k => ?_) (Ev.now _)
      rw [impl_Dfa_next.l0, if_pos (by omega), if_pos (by omega), if_pos (by omega), if_pos e]
    · rw [if_neg e]
      refine Ev.step (fun k => ?_) (ih (i + 1) (by omega))
      rw [impl_Dfa_next.l0, if_pos (by omega), if_pos (by omega), if_pos (by omega), if_neg e, wnA i (by omega)]
theorem step_both (l : List S136) (hg : ∀ j, j < l.length → stOK (l.length : Int) (rd_T136 l (j : Int)) = true) (st c : Int) (h : st < (l.length : Int)) :
    ∃ v, v < (l.length : Int) ∧ Ev (fun k => spec_l05Step.f k l st c) v ∧ Ev (fun k => impl_Dfa_next.f k l st c) v := by
  unfold spec_l05Step.f impl_Dfa_next.f
  by_cases h0 : st < 0
  · exact ⟨-1, by omega, Ev.pos h0 (Ev.now _), Ev.pos h0 (Ev.now _)⟩
  · obtain ⟨a, rfl⟩ : ∃ a : Nat, st = a := ⟨st.toNat, by omega⟩
    have hs := hg a (by omega)
    rw [stOK, Bool.and_eq_true] at hs
    obtain ⟨hd, hA⟩ := hs
    have hd := of_decide_eq_true hd
    refine ⟨arcFind (rd_T136 l (a : Int)).f1 c (rd_T136 l (a : Int)).f2 (rd_T136 l (a : Int)).f1.length 0, ?_, Ev.neg h0 ?_, Ev.neg h0 (Ev.pos (by omega) (Ev.pos h ?_))⟩
    · exact arcFind_lt _ _ c _ hd.2.1 (fun j hj => arcsFrom_all _ _ _ 0 hA j (by omega) (by omega)) _ 0 (by omega)
    · exact spec_find l a (by omega) c (by omega) _ 0 (by omega)
    · exact impl_find _ c _ _ (by omega) _ 0 (by omega)
theorem run_both (l : List S136) (hg : ∀ j, j < l.length → stOK (l.length : Int) (rd_T136 l (j : Int)) = true) (xs : List Int) (hx : xs.length ≤ 65536) (d : Nat) : ∀ (i : Nat) (st : Int), i + d = xs.length → st < (l.length : Int) →
    ∃ r, Ev (fun k => spec_l05Accepts.l0 k xs st (i : Int) l) r ∧ Ev (fun k => impl_Dfa_takes.l0 k st xs (xs.length : Int) (i : Int) l) r := by
  induction d with
  | zero =>
    intro i st hi hs
    by_cases h0 : st ≥ 0
    · refine ⟨(rd_T136 l st).f0, Ev.step (fun k => ?_) (Ev.now _), Ev.step (fun k => ?_) (Ev.now _)⟩
      · rw [spec_l05Accepts.l0, if_neg (by omega), if_pos h0, if_pos (by omega), if_pos hs]
      · rw [impl_Dfa_takes.l0, if_neg (by omega), if_pos h0, if_pos (by omega), if_pos hs]
    · refine ⟨false, Ev.step (fun k => ?_) (Ev.now _), Ev.step (fun k => ?_) (Ev.now _)⟩
      · rw [spec_l05Accepts.l0, if_neg (by omega), if_neg h0]
      · rw [impl_Dfa_takes.l0, if_neg (by omega), if_neg h0]
  | succ d ih =>
    intro i st hi hs
    obtain ⟨v, hv, h1, h2⟩ := step_both l hg st (rd xs (i : Int)) hs
    obtain ⟨r, r1, r2⟩ := ih (i + 1) v (by omega) hv
    refine ⟨r, Ev.step (f := fun k => (spec_l05Step.f k l st (rd xs (i : Int))).bind fun t => spec_l05Accepts.l0 k xs t ((i + 1 : Nat) : Int) l) (fun k => ?_) (Ev.bind h1 r1), Ev.step (f := fun k => (impl_Dfa_next.f k l st (rd xs (i : Int))).bind fun t => impl_Dfa_takes.l0 k t xs (xs.length : Int) ((i + 1 : Nat) : Int) l) (fun k => ?_) (Ev.bind h2 r2)⟩
    · rw [spec_l05Accepts.l0, if_pos (by omega), if_pos (by omega), wnA i (by omega)]
    · rw [impl_Dfa_takes.l0, if_pos (by omega), if_pos (by omega), if_pos (by omega), wnA i (by omega)]
theorem ok_both2 (l : List S136) (hl : l.length ≤ 1048576) : ∃ b, Ev (fun k => spec_DfaOK.f k l) b ∧ Ev (fun k => impl_DfaOK.f k l) b ∧ (b = true → 1 ≤ l.length ∧ statesFrom (l.length : Int) l l.length 0 = true) := by
  have h1 := spec_states l hl l.length 0 (by omega)
  have h2 := impl_states l hl l.length 0 (by omega)
  rw [n0] at h1 h2
  unfold spec_DfaOK.f impl_DfaOK.f
  by_cases c1 : (l.length : Int) < 1
  · refine ⟨false, Ev.pos c1 (Ev.step (fun k => ?_) (Ev.now _)), Ev.pos c1 (Ev.step (fun k => ?_) (Ev.now _)), fun h => by cases h⟩
    · rw [spec_DfaOK.j0, if_pos rfl]
    · rw [impl_DfaOK.j0, if_pos rfl]
  · by_cases c2 : (l.length : Int) > 256
    · refine ⟨false, Ev.neg c1 (Ev.step (fun k => ?_) (Ev.now _)), Ev.neg c1 (Ev.step (fun k => ?_) (Ev.now _)), fun h => by cases h⟩
      · rw [spec_DfaOK.j0, decide_eq_true c2, if_pos rfl]
      · rw [impl_DfaOK.j0, decide_eq_true c2, if_pos rfl]
    · refine ⟨_, Ev.neg c1 (Ev.step (fun k => ?_) h1), Ev.neg c1 (Ev.step (fun k => ?_) h2), fun h => ⟨by omega, h⟩⟩
      · rw [spec_DfaOK.j0, decide_eq_false c2, if_neg Bool.false_ne_true]
      · rw [impl_DfaOK.j0, decide_eq_false c2, if_neg Bool.false_ne_true]
theorem accepts_both (l : List S136) (hl : l.length ≤ 1048576) (s : ByteArray) : ∃ r, Ev (fun k => spec_Accepts.f k l s) r ∧ Ev (fun k => impl_Accepts.f k l s) r := by
  unfold spec_Accepts.f impl_Accepts.f
  by_cases hs : (s.size : Int) > 65536
  · exact ⟨_, Ev.pos hs (Ev.now _), Ev.pos hs (Ev.now _)⟩
  · obtain ⟨b, h1, h2, h3⟩ := ok_both2 l hl
    by_cases hb : b = true
    · obtain ⟨g1, g2⟩ := h3 hb
      by_cases hd : (decTell s).2 = 0
      · obtain ⟨r, r1, r2⟩ := run_both l (fun j hj => statesFrom_all _ l _ 0 g2 j (by omega) (by omega)) (decTell s).1 (decTell_length s) (decTell s).1.length 0 0 (by omega) (by omega)
        refine ⟨(r, 0), Ev.neg hs (Ev.bind h1 (Ev.pos hb (Ev.bind (spec_Decode_eq s) (Ev.pos hd (Ev.bind r1 (Ev.now _)))))), Ev.neg hs (Ev.bind h2 (Ev.pos hb (Ev.bind (Ev.ofEq (impl_Decode_eq s)) (Ev.pos hd (Ev.bind r2 (Ev.now _))))))⟩
      · exact ⟨_, Ev.neg hs (Ev.bind h1 (Ev.pos hb (Ev.bind (spec_Decode_eq s) (Ev.neg hd (Ev.now _))))), Ev.neg hs (Ev.bind h2 (Ev.pos hb (Ev.bind (Ev.ofEq (impl_Decode_eq s)) (Ev.neg hd (Ev.now _)))))⟩
    · exact ⟨_, Ev.neg hs (Ev.bind h1 (Ev.neg hb (Ev.now _))), Ev.neg hs (Ev.bind h2 (Ev.neg hb (Ev.now _)))⟩
theorem FnExactAccepts (l : List S133) (s : ByteArray) (hw : WfFnExactAccepts.wfp0 l) (hs : s.size ≤ 140737488351232) : ∃ k, laws_FnExactAccepts.f k l s = some true := by
  obtain ⟨hm, ha⟩ := hw
  unfold maxLen at hm
  have ha' : ∀ x ∈ l, x.f1.length ≤ 9223372036854775807 := fun x hx => by
    have := (ha x hx).2.1.1
    unfold maxLen at this; exact this
  refine Ev.rounds (g := fun k => laws_FnExactAccepts.f k l s) ?_
  unfold laws_FnExactAccepts.f
  by_cases h : (s.size : Int) > 1048576
  · exact Ev.pos h (Ev.now _)
  · refine Ev.neg h ?_
    rcases szDfa_eq l hm ha' with h | ⟨r, h, h0, h1, h2⟩
    · exact Ev.bind h (Ev.pos (by decide) (Ev.now _))
    · refine Ev.bind h (Ev.neg (by omega) ?_)
      have hto := toDfa_eq l h1 h2
      have hlen : (l.map toSt).length ≤ 1048576 := by simpa using h1
      have hst : ∀ x ∈ l.map toSt, x.f1.length ≤ 1048576 := by
        intro x hx
        obtain ⟨y, hy, rfl⟩ := List.mem_map.1 hx
        simpa [toSt] using h2 y hy
      obtain ⟨b, hsp, hi⟩ := accepts_both (l.map toSt) hlen s
      refine Ev.bind hto ?_
      refine Ev.bind hsp ?_
      refine Ev.bind hto ?_
      refine Ev.bind hi ?_
      refine Ev.neg (by simp) ?_
      refine Ev.step (fun k => by rw [laws_FnExactAccepts.j0]) ?_
      refine Ev.neg (by simp) ?_
      refine Ev.bind hto ?_
      refine Ev.bind (eqDfa_eq _ hlen hst) ?_
      exact Ev.pos rfl (Ev.now _)

end Go.Proofs.YtcokeankiedfcaaDoor.Pure
