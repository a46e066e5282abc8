/- Whatever the schema, the program's SchemaOK tells what the reference's SchemaOK tells and writes into no argument: the law answers true. No condition. -/
import Derived.Test.YtmbgncgcddjomaaDoorXFnExactSchemaOKx13
import Derived.Test.YtmbgncgcddjomaaDoorKit
import Derived.Lib.ItoaNum
import Derived.Lib.SlTrimSet
import Derived.Lib.Bytes
import Derived.Test.YtmbgncgcddjomaaDoorWfFnExactSchemaOK
set_option linter.unusedSimpArgs false
set_option linter.unusedVariables false
namespace Go.Proofs.YtmbgncgcddjomaaDoor.Pure
open Go.RowKit Go.Proofs.YtmbgncgcddjomaaDoor.XFnExactSchemaOK Go.Proofs.YtmbgncgcddjomaaDoorW.PrintWords Go.Proofs.YtmbgncgcddjomaaDoorW.PrintLast Go.Proofs.YtmbgncgcddjomaaDoorW.PrintMore Go.Proofs.YtmbgncgcddjomaaDoor.Kit

theorem Ev.steps {α : Type} {g f : Nat → Option α} {r : α} (c : Nat) (h : ∀ k, g (k + c) = f k) (k : Ev f r) : Ev g r := by
  obtain ⟨K, hK⟩ := k
  refine ⟨K + c, fun n hn => ?_⟩
  have := h (n - c)
  rw [Nat.sub_add_cancel (by omega)] at this
  rw [this]; exact hK _ (by omega)

theorem Ev.pos {α : Type} {c : Prop} [Decidable c] {f g : Nat → Option α} {r : α} (h : c) (k : Ev f r) : Ev (fun n => if c then f n else g n) r := Ev.congr (fun n => if_pos h) k
theorem Ev.neg {α : Type} {c : Prop} [Decidable c] {f g : Nat → Option α} {r : α} (h : ¬ c) (k : Ev g r) : Ev (fun n => if c then f n else g n) r := Ev.congr (fun n => if_neg h) k
theorem Ev.ofEq {α : Type} {x : Option α} {r : α} (h : x = some r) : Ev (fun _ => x) r := ⟨0, fun _ _ => h⟩
theorem Ev.from {α : Type} {g : Nat → Option α} {r : α} (K : Nat) (h : ∀ k, K < k → g k = some r) : Ev g r := ⟨K + 1, fun k hk => h k (by omega)⟩

theorem conv_all {α β : Type} (L : Nat → List α → List β → Int → Option (List β)) (xs : List α) (g : α → β) (z : β)
    (hs : ∀ (i : Nat) (hi : i < xs.length) (ys : List β) (r : List β), ys.length = xs.length → Ev (fun k => L k xs (ys.set i (g xs[i])) ((i + 1 : Nat) : Int)) r → Ev (fun k => L k xs ys (i : Int)) r)
    (he : ∀ ys : List β, Ev (fun k => L k xs ys (xs.length : Int)) ys) : Ev (fun k => L k xs (List.replicate xs.length z) 0) (xs.map g) := by
  have key : ∀ (d i : Nat) (ys : List β), i + d = xs.length → ys.length = xs.length → ys.take i = (xs.map g).take i → Ev (fun k => L k xs ys (i : Int)) (xs.map g) := by
    intro d
    induction d with
    | zero =>
      intro i ys hi hl ht
      have e : ys = xs.map g := by
        rw [← List.take_of_length_le (i := i) (l := ys) (by omega), ht, List.take_of_length_le (by simp; omega)]
      have h := he ys
      rw [show (i : Int) = (xs.length : Int) by omega, ← e]
      exact h
    | succ d ih =>
      intro i ys hi hl ht
      have hlt : i < xs.length := by omega
      refine hs i hlt ys _ hl (ih (i + 1) _ (by omega) (by simp [hl]) ?_)
      rw [List.take_succ_eq_append_getElem (by rw [List.length_set]; omega), List.take_succ_eq_append_getElem (by simp; omega), List.getElem_set_self, List.take_set_of_le (Nat.le_refl _), ht, List.getElem_map]
  have h := key xs.length 0 (List.replicate xs.length z) (by omega) (by simp) (by simp)
  exact h

theorem same_all {α : Type} (L : Nat → List α → List α → Int → Option Bool) (xs : List α)
    (hs : ∀ (i : Nat) (_ : i < xs.length), Ev (fun k => L k xs xs ((i + 1 : Nat) : Int)) true → Ev (fun k => L k xs xs (i : Int)) true)
    (he : Ev (fun k => L k xs xs (xs.length : Int)) true) : Ev (fun k => L k xs xs 0) true := by
  have key : ∀ (d i : Nat), i + d = xs.length → Ev (fun k => L k xs xs (i : Int)) true := by
    intro d
    induction d with
    | zero => intro i hi; rw [show (i : Int) = (xs.length : Int) by omega]; exact he
    | succ d ih => intro i hi; exact hs i (by omega) (ih (i + 1) (by omega))
  exact key xs.length 0 (by omega)

theorem getD_in {α : Type} (xs : List α) (z : α) (i : Nat) (hi : i < xs.length) : xs.getD i z = xs[i] := by
  rw [List.getD_eq_getElem?_getD, List.getElem?_eq_getElem hi]; rfl

def eb (a : Int) : List Int := if a < 128 then [a] else if a < 2048 then [192 + a / 64, 128 + a % 64] else if a < 65536 then [224 + a / 4096, 128 + a / 64 % 64, 128 + a % 64] else [240 + a / 262144, 128 + a / 4096 % 64, 128 + a / 64 % 64, 128 + a % 64]
def chOK (a : Int) : Bool := decide (0 ≤ a ∧ a ≤ 1114111 ∧ (a < 55296 ∨ 57343 < a))

theorem chOK_iff (a : Int) : chOK a = true ↔ 0 ≤ a ∧ a ≤ 1114111 ∧ (a < 55296 ∨ 57343 < a) := by simp [chOK]

theorem eb_length (a : Int) : 1 ≤ (eb a).length ∧ (eb a).length ≤ 4 := by
  unfold eb; (repeat' split) <;> simp

theorem charOK_eq (a : Int) : spec_l01CharOK.f a = some (chOK a) := by
  unfold spec_l01CharOK.f chOK
  (repeat' split) <;> (congr 1; rw [Bool.eq_iff_iff]; simp; try omega)

theorem bytes_eq (a : Int) (h : chOK a = true) : spec_l01Bytes.f a = some (eb a) := by
  obtain ⟨h0, h1, _⟩ := (chOK_iff a).1 h
  unfold spec_l01Bytes.f eb
  simp only [Int.tdiv_eq_ediv_of_nonneg h0, Int.tmod_eq_emod_of_nonneg h0]
  have d1 : wrap64 (a / 64) = a / 64 := w64 (by omega) (by omega)
  have d2 : wrap64 (a / 4096) = a / 4096 := w64 (by omega) (by omega)
  have d3 : wrap64 (a / 262144) = a / 262144 := w64 (by omega) (by omega)
  rw [d1, d2, d3]
  have m1 : Int.tmod (a / 64) 64 = a / 64 % 64 := Int.tmod_eq_emod_of_nonneg (by omega)
  have m2 : Int.tmod (a / 4096) 64 = a / 4096 % 64 := Int.tmod_eq_emod_of_nonneg (by omega)
  rw [m1, m2]
  have b0 : wrap64 (128 + a % 64) % 256 = 128 + a % 64 := by rw [w64 (by omega) (by omega)]; omega
  have b1 : wrap64 (128 + a / 64 % 64) % 256 = 128 + a / 64 % 64 := by rw [w64 (by omega) (by omega)]; omega
  have b2 : wrap64 (128 + a / 4096 % 64) % 256 = 128 + a / 4096 % 64 := by rw [w64 (by omega) (by omega)]; omega
  rw [b0, b1, b2]
  by_cases c1 : a < 128
  · rw [if_pos c1, if_pos c1, Int.emod_eq_of_lt h0 (by omega)]
  · rw [if_neg c1, if_neg c1]
    by_cases c2 : a < 2048
    · rw [if_pos c2, if_pos c2, w64 (x := 192 + a / 64) (by omega) (by omega), Int.emod_eq_of_lt (a := 192 + a / 64) (by omega) (by omega)]
    · rw [if_neg c2, if_neg c2]
      by_cases c3 : a < 65536
      · rw [if_pos c3, if_pos c3, w64 (x := 224 + a / 4096) (by omega) (by omega), Int.emod_eq_of_lt (a := 224 + a / 4096) (by omega) (by omega)]
      · rw [if_neg c3, if_neg c3, w64 (x := 240 + a / 262144) (by omega) (by omega), Int.emod_eq_of_lt (a := 240 + a / 262144) (by omega) (by omega)]


def impl_Decode.runes (s : ByteArray) : Nat → Nat → List Int
  | 0, _ => []
  | n + 1, pos => if pos < s.size then ((Utf8.decode s pos).1 : Int) :: impl_Decode.runes s n (pos + (Utf8.decode s pos).2) else []
theorem bt_get (s : ByteArray) (i : Nat) : bt s (i : Int) = ((s.get! i).toNat : Int) := by
  have h := Lib.getD_get!' s i
  unfold bt
  rw [Int.toNat_natCast]
  by_cases c : i < s.size
  · rw [dif_pos c, ← h, List.getD_eq_getElem?_getD, List.getElem?_eq_getElem (by rw [data_length]; exact c)]; rfl
  · rw [dif_neg c, ← h, List.getD_eq_getElem?_getD, List.getElem?_eq_none (by rw [data_length]; omega)]; rfl

def stepR (d : Nat × Nat) : Int × Int := if d.1 = 65533 ∧ d.2 = 1 then (0, 0) else ((d.1 : Int), (d.2 : Int))
def finR (v n : Int) : Int × Int := if chOK v = true ∧ ((eb v).length : Int) = n then (v, n) else (0, 0)

theorem l0_end (s : ByteArray) (pos n v : Int) (k : Nat) : spec_l01At.l0 (k + 1) s pos n v n = some (finR v n) := by
  rw [spec_l01At.l0, if_neg (by omega), charOK_eq, Option.bind_some, finR]
  by_cases c : chOK v = true
  · rw [if_pos c, bytes_eq v c, Option.bind_some]
    by_cases c2 : ((eb v).length : Int) = n
    · rw [if_pos c2, if_pos ⟨c, c2⟩]
    · rw [if_neg c2, if_neg (fun h => c2 h.2)]
  · rw [if_neg c, if_neg (fun h => c h.1)]

theorem l0_step (s : ByteArray) (pos i n : Nat) (v : Int) (k : Nat) (hs : s.size ≤ 1048576) (hi : i < n) (hin : pos + i < s.size) (h0 : 0 ≤ v) (h1 : v ≤ 100000000) (b : Nat) (hb : (s.get! (pos + i)).toNat = b) :
    spec_l01At.l0 (k + 1) s (pos : Int) (n : Int) v (i : Int) = if b / 64 = 2 then spec_l01At.l0 k s (pos : Int) (n : Int) (v * 64 + ((b % 64 : Nat) : Int)) ((i + 1 : Nat) : Int) else some (0, 0) := by
  have hlt : b < 256 := by rw [← hb]; exact UInt8.toNat_lt _
  have e1 : Aside0 (wrap64 ((pos : Int) + (i : Int)) = ((pos + i : Nat) : Int)) := ⟨by rw [w64 (by omega) (by omega)]; omega⟩
  have e2 : Aside0 (wrap64 ((i : Int) + 1) = ((i + 1 : Nat) : Int)) := ⟨by rw [w64 (by omega) (by omega)]; omega⟩
  have e3 : Aside0 (wrap64 (b : Int) = (b : Int)) := ⟨w64 (by omega) (by omega)⟩
  rw [spec_l01At.l0, if_pos (by omega), e1.out, if_pos (by omega), if_pos (by omega), bt_get, hb, e3.out, e2.out]
  by_cases c1 : (b : Int) < 128
  · rw [if_pos c1, if_neg (by omega)]
  · rw [if_neg c1]
    by_cases c2 : (b : Int) > 191
    · rw [if_pos c2, if_neg (by omega)]
    · have e4 : wrap64 (wrap64 (wrap64 (v * 64) + (b : Int)) - 128) = v * 64 + ((b % 64 : Nat) : Int) := by
        rw [w64 (x := v * 64) (by omega) (by omega), w64 (x := v * 64 + (b : Int)) (by omega) (by omega), w64 (by omega) (by omega)]; omega
      rw [if_neg c2, if_pos (by omega), e4]

theorem at2 (s : ByteArray) (pos : Nat) (v : Int) (hs : s.size ≤ 1048576) (hp : pos < s.size) (h0 : 0 ≤ v) (h1 : v ≤ 1000) (b1 : Nat) (hb1 : (s.get! (pos + 1)).toNat = b1) :
    Ev (fun k => spec_l01At.j0 k s (pos : Int) 2 v) (if 1 < s.size - pos ∧ b1 / 64 = 2 then finR (v * 64 + ((b1 % 64 : Nat) : Int)) 2 else (0, 0)) := by
  have e1 : Aside0 (wrap64 ((pos : Int) + 2) = ((pos + 2 : Nat) : Int)) := ⟨by rw [w64 (by omega) (by omega)]; omega⟩
  by_cases c : 1 < s.size - pos
  · have hst := fun k => l0_step s pos 1 2 v k hs (by omega) (by omega) h0 (by omega) b1 hb1
    by_cases d : b1 / 64 = 2
    · rw [if_pos ⟨c, d⟩]
      refine Ev.steps 3 (fun k => ?_) (Ev.now _)
      have h := hst (k + 1)
      rw [if_pos d] at h
      rw [spec_l01At.j0, e1.out, if_neg (by omega)]
      exact h.trans (l0_end s _ _ _ _)
    · rw [if_neg (fun h => d h.2)]
      refine Ev.steps 2 (fun k => ?_) (Ev.now _)
      have h := hst k
      rw [if_neg d] at h
      rw [spec_l01At.j0, e1.out, if_neg (by omega)]
      exact h
  · rw [if_neg (fun h => c h.1)]
    refine Ev.step (fun k => ?_) (Ev.now _)
    rw [spec_l01At.j0, e1.out, if_pos (by omega)]

theorem at3 (s : ByteArray) (pos : Nat) (v : Int) (hs : s.size ≤ 1048576) (hp : pos < s.size) (h0 : 0 ≤ v) (h1 : v ≤ 1000) (b1 b2 : Nat) (hb1 : (s.get! (pos + 1)).toNat = b1) (hb2 : (s.get! (pos + 2)).toNat = b2) :
    Ev (fun k => spec_l01At.j0 k s (pos : Int) 3 v) (if 2 < s.size - pos ∧ b1 / 64 = 2 ∧ b2 / 64 = 2 then finR ((v * 64 + ((b1 % 64 : Nat) : Int)) * 64 + ((b2 % 64 : Nat) : Int)) 3 else (0, 0)) := by
  have e1 : Aside0 (wrap64 ((pos : Int) + 3) = ((pos + 3 : Nat) : Int)) := ⟨by rw [w64 (by omega) (by omega)]; omega⟩
  by_cases c : 2 < s.size - pos
  · have hst := fun k => l0_step s pos 1 3 v k hs (by omega) (by omega) h0 (by omega) b1 hb1
    by_cases d : b1 / 64 = 2
    · have hst2 := fun k => l0_step s pos 2 3 (v * 64 + ((b1 % 64 : Nat) : Int)) k hs (by omega) (by omega) (by omega) (by omega) b2 hb2
      by_cases d2 : b2 / 64 = 2
      · rw [if_pos ⟨c, d, d2⟩]
        refine Ev.steps 4 (fun k => ?_) (Ev.now _)
        have h := hst (k + 2)
        rw [if_pos d] at h
        have h2 := hst2 (k + 1)
        rw [if_pos d2] at h2
        rw [spec_l01At.j0, e1.out, if_neg (by omega)]
        exact h.trans (h2.trans (l0_end s _ _ _ _))
      · rw [if_neg (fun h => d2 h.2.2)]
        refine Ev.steps 3 (fun k => ?_) (Ev.now _)
        have h := hst (k + 1)
        rw [if_pos d] at h
        have h2 := hst2 k
        rw [if_neg d2] at h2
        rw [spec_l01At.j0, e1.out, if_neg (by omega)]
        exact h.trans h2
    · rw [if_neg (fun h => d h.2.1)]
      refine Ev.steps 2 (fun k => ?_) (Ev.now _)
      have h := hst k
      rw [if_neg d] at h
      rw [spec_l01At.j0, e1.out, if_neg (by omega)]
      exact h
  · rw [if_neg (fun h => c h.1)]
    refine Ev.step (fun k => ?_) (Ev.now _)
    rw [spec_l01At.j0, e1.out, if_pos (by omega)]

theorem at4 (s : ByteArray) (pos : Nat) (v : Int) (hs : s.size ≤ 1048576) (hp : pos < s.size) (h0 : 0 ≤ v) (h1 : v ≤ 1000) (b1 b2 b3 : Nat) (hb1 : (s.get! (pos + 1)).toNat = b1) (hb2 : (s.get! (pos + 2)).toNat = b2) (hb3 : (s.get! (pos + 3)).toNat = b3) :
    Ev (fun k => spec_l01At.j0 k s (pos : Int) 4 v) (if 3 < s.size - pos ∧ b1 / 64 = 2 ∧ b2 / 64 = 2 ∧ b3 / 64 = 2 then finR (((v * 64 + ((b1 % 64 : Nat) : Int)) * 64 + ((b2 % 64 : Nat) : Int)) * 64 + ((b3 % 64 : Nat) : Int)) 4 else (0, 0)) := by
  have e1 : Aside0 (wrap64 ((pos : Int) + 4) = ((pos + 4 : Nat) : Int)) := ⟨by rw [w64 (by omega) (by omega)]; omega⟩
  by_cases c : 3 < s.size - pos
  · have hst := fun k => l0_step s pos 1 4 v k hs (by omega) (by omega) h0 (by omega) b1 hb1
    by_cases d : b1 / 64 = 2
    · have hst2 := fun k => l0_step s pos 2 4 (v * 64 + ((b1 % 64 : Nat) : Int)) k hs (by omega) (by omega) (by omega) (by omega) b2 hb2
      by_cases d2 : b2 / 64 = 2
      · have hst3 := fun k => l0_step s pos 3 4 ((v * 64 + ((b1 % 64 : Nat) : Int)) * 64 + ((b2 % 64 : Nat) : Int)) k hs (by omega) (by omega) (by omega) (by omega) b3 hb3
        by_cases d3 : b3 / 64 = 2
        · rw [if_pos ⟨c, d, d2, d3⟩]
          refine Ev.steps 5 (fun k => ?_) (Ev.now _)
          have h := hst (k + 3)
          rw [if_pos d] at h
          have h2 := hst2 (k + 2)
          rw [if_pos d2] at h2
          have h3 := hst3 (k + 1)
          rw [if_pos d3] at h3
          rw [spec_l01At.j0, e1.out, if_neg (by omega)]
          exact h.trans (h2.trans (h3.trans (l0_end s _ _ _ _)))
        · rw [if_neg (fun h => d3 h.2.2.2)]
          refine Ev.steps 4 (fun k => ?_) (Ev.now _)
          have h := hst (k + 2)
          rw [if_pos d] at h
          have h2 := hst2 (k + 1)
          rw [if_pos d2] at h2
          have h3 := hst3 k
          rw [if_neg d3] at h3
          rw [spec_l01At.j0, e1.out, if_neg (by omega)]
          exact h.trans (h2.trans h3)
      · rw [if_neg (fun h => d2 h.2.2.1)]
        refine Ev.steps 3 (fun k => ?_) (Ev.now _)
        have h := hst (k + 1)
        rw [if_pos d] at h
        have h2 := hst2 k
        rw [if_neg d2] at h2
        rw [spec_l01At.j0, e1.out, if_neg (by omega)]
        exact h.trans h2
    · rw [if_neg (fun h => d h.2.1)]
      refine Ev.steps 2 (fun k => ?_) (Ev.now _)
      have h := hst k
      rw [if_neg d] at h
      rw [spec_l01At.j0, e1.out, if_neg (by omega)]
      exact h
  · rw [if_neg (fun h => c h.1)]
    refine Ev.step (fun k => ?_) (Ev.now _)
    rw [spec_l01At.j0, e1.out, if_pos (by omega)]

theorem eb_len (v : Int) : ((eb v).length : Int) = if v < 128 then 1 else if v < 2048 then 2 else if v < 65536 then 3 else 4 := by
  unfold eb
  repeat' split
  all_goals simp
theorem finR_ok (v n : Int) (h : chOK v = true) (hl : ((eb v).length : Int) = n) : finR v n = (v, n) := by unfold finR; rw [if_pos ⟨h, hl⟩]
theorem finR_len (v n : Int) (hl : ((eb v).length : Int) ≠ n) : finR v n = (0, 0) := by unfold finR; rw [if_neg (fun h => hl h.2)]
theorem finR_ch (v n : Int) (h : ¬ (chOK v = true)) : finR v n = (0, 0) := by unfold finR; rw [if_neg (fun h' => h h'.1)]
theorem stepR_bad : stepR (65533, 1) = (0, 0) := rfl
theorem stepR_wide (v n : Nat) (h : n ≠ 1) : stepR (v, n) = ((v : Int), (n : Int)) := by unfold stepR; rw [if_neg (fun h' => h h'.2)]

theorem dec1 (m b0 b1 b2 b3 : Nat) (h : b0 < 128) : stepR (Lib.decodeN m b0 b1 b2 b3) = ((b0 : Int), 1) := by
  unfold Lib.decodeN
  rw [if_pos h, stepR, if_neg (by simp only; omega)]; rfl
theorem dec0 (m b0 b1 b2 b3 : Nat) (h : 128 ≤ b0) (h' : b0 < 192) : stepR (Lib.decodeN m b0 b1 b2 b3) = (0, 0) := by
  unfold Lib.decodeN
  rw [if_neg (by omega), if_neg (by omega), if_neg (by omega), if_neg (by omega)]; rfl
theorem dec2 (m b0 b1 b2 b3 : Nat) (h : 192 ≤ b0) (h' : b0 < 224) : stepR (Lib.decodeN m b0 b1 b2 b3) = if 1 < m ∧ b1 / 64 = 2 then finR (((b0 : Int) - 192) * 64 + ((b1 % 64 : Nat) : Int)) 2 else (0, 0) := by
  unfold Lib.decodeN
  rw [if_neg (by omega)]
  by_cases c : 1 < m ∧ b1 / 64 = 2
  · rw [if_pos ⟨by omega, c⟩, if_pos c]
    have e : ((b0 : Int) - 192) * 64 + ((b1 % 64 : Nat) : Int) = ((b0 % 32 * 64 + b1 % 64 : Nat) : Int) := by omega
    rw [e]
    have hv : b0 % 32 * 64 + b1 % 64 < 2048 := by omega
    generalize b0 % 32 * 64 + b1 % 64 = v at *
    by_cases d : v ≥ 128
    · rw [if_pos d, stepR_wide _ _ (by decide), finR_ok _ _ ((chOK_iff _).2 ⟨by omega, by omega, by omega⟩) (by rw [eb_len, if_neg (by omega), if_pos (by omega)])]; rfl
    · rw [if_neg d, stepR_bad, finR_len _ _ (by rw [eb_len, if_pos (by omega)]; decide)]
  · rw [if_neg (fun h => c h.2), if_neg (by omega), if_neg (by omega), if_neg c, stepR_bad]
theorem dec3 (m b0 b1 b2 b3 : Nat) (h : 224 ≤ b0) (h' : b0 < 240) : stepR (Lib.decodeN m b0 b1 b2 b3) = if 2 < m ∧ b1 / 64 = 2 ∧ b2 / 64 = 2 then finR ((((b0 : Int) - 224) * 64 + ((b1 % 64 : Nat) : Int)) * 64 + ((b2 % 64 : Nat) : Int)) 3 else (0, 0) := by
  unfold Lib.decodeN
  rw [if_neg (by omega), if_neg (by omega)]
  by_cases c : 2 < m ∧ b1 / 64 = 2 ∧ b2 / 64 = 2
  · rw [if_pos ⟨by omega, ⟨by omega, c.2.1⟩, c.1, c.2.2⟩, if_pos c]
    have e : (((b0 : Int) - 224) * 64 + ((b1 % 64 : Nat) : Int)) * 64 + ((b2 % 64 : Nat) : Int) = ((b0 % 16 * 4096 + b1 % 64 * 64 + b2 % 64 : Nat) : Int) := by omega
    rw [e]
    have hv : b0 % 16 * 4096 + b1 % 64 * 64 + b2 % 64 < 65536 := by omega
    generalize b0 % 16 * 4096 + b1 % 64 * 64 + b2 % 64 = v at *
    by_cases d : v ≥ 2048
    · by_cases d2 : v < 55296 ∨ 57344 ≤ v ∧ v ≤ 1114111
      · rw [if_pos ⟨d, d2⟩, stepR_wide _ _ (by decide), finR_ok _ _ ((chOK_iff _).2 ⟨by omega, by omega, by omega⟩) (by rw [eb_len, if_neg (by omega), if_neg (by omega), if_pos (by omega)])]; rfl
      · rw [if_neg (fun h => d2 h.2), stepR_bad, finR_ch _ _ (fun h => by have := (chOK_iff _).1 h; omega)]
    · rw [if_neg (fun h => d h.1), stepR_bad, finR_len _ _ (by rw [eb_len]; split <;> (try split) <;> omega)]
  · rw [if_neg (fun h => c ⟨h.2.2.1, h.2.1.2, h.2.2.2⟩), if_neg (by omega), if_neg c, stepR_bad]
theorem dec4 (m b0 b1 b2 b3 : Nat) (h : 240 ≤ b0) (h' : b0 < 256) : stepR (Lib.decodeN m b0 b1 b2 b3) = if 3 < m ∧ b1 / 64 = 2 ∧ b2 / 64 = 2 ∧ b3 / 64 = 2 then finR (((((b0 : Int) - 240) * 64 + ((b1 % 64 : Nat) : Int)) * 64 + ((b2 % 64 : Nat) : Int)) * 64 + ((b3 % 64 : Nat) : Int)) 4 else (0, 0) := by
  unfold Lib.decodeN
  rw [if_neg (by omega), if_neg (by omega), if_neg (by omega)]
  by_cases c : 3 < m ∧ b1 / 64 = 2 ∧ b2 / 64 = 2 ∧ b3 / 64 = 2
  · rw [if_pos c]
    by_cases g : b0 < 248
    · rw [if_pos ⟨by omega, ⟨by omega, c.2.1⟩, ⟨by omega, c.2.2.1⟩, c.1, c.2.2.2⟩]
      have e : ((((b0 : Int) - 240) * 64 + ((b1 % 64 : Nat) : Int)) * 64 + ((b2 % 64 : Nat) : Int)) * 64 + ((b3 % 64 : Nat) : Int) = ((b0 % 8 * 262144 + b1 % 64 * 4096 + b2 % 64 * 64 + b3 % 64 : Nat) : Int) := by omega
      rw [e]
      generalize b0 % 8 * 262144 + b1 % 64 * 4096 + b2 % 64 * 64 + b3 % 64 = v at *
      by_cases d : v ≥ 65536
      · by_cases d2 : v < 55296 ∨ 57344 ≤ v ∧ v ≤ 1114111
        · rw [if_pos ⟨d, d2⟩, stepR_wide _ _ (by decide), finR_ok _ _ ((chOK_iff _).2 ⟨by omega, by omega, by omega⟩) (by rw [eb_len, if_neg (by omega), if_neg (by omega), if_neg (by omega)])]; rfl
        · rw [if_neg (fun h => d2 h.2), stepR_bad, finR_ch _ _ (fun h => by have := (chOK_iff _).1 h; omega)]
      · rw [if_neg (fun h => d h.1), stepR_bad, finR_len _ _ (by rw [eb_len]; split <;> (try split) <;> (try split) <;> omega)]
    · rw [if_neg (by omega), stepR_bad, finR_ch _ _ (fun h => by have := (chOK_iff _).1 h; omega)]
  · rw [if_neg (fun h => c ⟨h.2.2.2.1, h.2.1.2, h.2.2.1.2, h.2.2.2.2⟩), if_neg c, stepR_bad]

theorem at_step (s : ByteArray) (pos : Nat) (hs : s.size ≤ 1048576) (hp : pos < s.size) : Ev (fun k => spec_l01At.f k s (pos : Int)) (stepR (Utf8.decode s pos)) := by
  rw [Lib.decode_at]
  generalize hm : s.size - pos = m
  obtain ⟨b0, hb0⟩ : ∃ b, (s.get! pos).toNat = b := ⟨_, rfl⟩
  obtain ⟨b1, hb1⟩ : ∃ b, (s.get! (pos + 1)).toNat = b := ⟨_, rfl⟩
  obtain ⟨b2, hb2⟩ : ∃ b, (s.get! (pos + 2)).toNat = b := ⟨_, rfl⟩
  obtain ⟨b3, hb3⟩ : ∃ b, (s.get! (pos + 3)).toNat = b := ⟨_, rfl⟩
  have hlt : b0 < 256 := by rw [← hb0]; exact UInt8.toNat_lt _
  rw [hb0, hb1, hb2, hb3]
  have e3 : Aside0 (wrap64 (b0 : Int) = (b0 : Int)) := ⟨w64 (by omega) (by omega)⟩
  unfold spec_l01At.f
  rw [bt_get, hb0, e3.out]
  refine Ev.pos (by omega) (Ev.pos (by omega) ?_)
  by_cases c1 : b0 < 128
  · rw [dec1 m b0 b1 b2 b3 c1]
    exact Ev.pos (by omega) (Ev.now _)
  · refine Ev.neg (by omega) ?_
    by_cases c2 : b0 ≥ 240
    · have e4 : wrap64 ((b0 : Int) - 240) = (b0 : Int) - 240 := w64 (by omega) (by omega)
      rw [dec4 m b0 b1 b2 b3 c2 hlt, e4, ← hm]
      exact Ev.pos (by omega) (at4 s pos _ hs hp (by omega) (by omega) b1 b2 b3 hb1 hb2 hb3)
    · refine Ev.neg (by omega) ?_
      by_cases c3 : b0 ≥ 224
      · have e4 : wrap64 ((b0 : Int) - 224) = (b0 : Int) - 224 := w64 (by omega) (by omega)
        rw [dec3 m b0 b1 b2 b3 c3 (by omega), e4, ← hm]
        exact Ev.pos (by omega) (at3 s pos _ hs hp (by omega) (by omega) b1 b2 hb1 hb2)
      · refine Ev.neg (by omega) ?_
        by_cases c4 : b0 ≥ 192
        · have e4 : wrap64 ((b0 : Int) - 192) = (b0 : Int) - 192 := w64 (by omega) (by omega)
          rw [dec2 m b0 b1 b2 b3 c4 (by omega), e4, ← hm]
          exact Ev.pos (by omega) (at2 s pos _ hs hp (by omega) (by omega) b1 hb1)
        · rw [dec0 m b0 b1 b2 b3 (by omega) (by omega)]
          exact Ev.neg (by omega) (Ev.now _)

def badAt (s : ByteArray) (pos : Nat) : Bool := decide ((Utf8.decode s pos).1 = 65533 ∧ (Utf8.decode s pos).2 = 1)
def validFrom (s : ByteArray) : Nat → Nat → Bool
  | 0, _ => true
  | n + 1, pos => if pos < s.size then (if badAt s pos then false else validFrom s n (pos + (Utf8.decode s pos).2)) else true

theorem decode_len (s : ByteArray) (pos : Nat) : (Utf8.decode s pos).2 ≤ 4 := by
  rw [Lib.decode_at]
  unfold Lib.decodeN
  repeat' split
  all_goals simp

theorem spec_loop (s : ByteArray) (hs : s.size ≤ 1048576) (fuel : Nat) : ∀ (pos : Nat) (acc : List Int), s.size ≤ pos + fuel → acc.length ≤ pos →
    Ev (fun k => spec_l01Decode.l0 k s acc (pos : Int)) (if validFrom s fuel pos then (acc ++ impl_Decode.runes s fuel pos, true) else ([], false)) := by
  induction fuel with
  | zero =>
    intro pos acc h1 h2
    rw [validFrom, if_pos rfl, impl_Decode.runes, List.append_nil]
    refine Ev.step (fun k => ?_) (Ev.now _)
    rw [spec_l01Decode.l0, if_neg (by omega)]
  | succ n ih =>
    intro pos acc h1 h2
    rw [validFrom, impl_Decode.runes]
    by_cases hp : pos < s.size
    · have hat := at_step s pos hs hp
      have hw := Lib.width_pos s pos
      have hw4 := decode_len s pos
      rw [if_pos hp, if_pos hp]
      refine Ev.step (f := fun k => (spec_l01At.f k s (pos : Int)).bind fun bt120 => if bt120.2 = 0 then some ([], false) else if acc.length < 17592186044416 then spec_l01Decode.l0 k s (acc ++ [bt120.1]) (wrap64 ((pos : Int) + bt120.2)) else none) (fun k => by rw [spec_l01Decode.l0, if_pos (by omega)]) (Ev.bind hat ?_)
      by_cases hb : badAt s pos = true
      · rw [if_pos hb]
        have hb' := of_decide_eq_true hb
        have e : stepR (Utf8.decode s pos) = (0, 0) := by unfold stepR; rw [if_pos hb']
        rw [e]
        exact Ev.pos rfl (Ev.now _)
      · rw [if_neg hb]
        have hb' : ¬ ((Utf8.decode s pos).1 = 65533 ∧ (Utf8.decode s pos).2 = 1) := fun h => hb (decide_eq_true h)
        have e : stepR (Utf8.decode s pos) = (((Utf8.decode s pos).1 : Int), ((Utf8.decode s pos).2 : Int)) := by unfold stepR; rw [if_neg hb']
        have e5 : wrap64 ((pos : Int) + ((Utf8.decode s pos).2 : Int)) = ((pos + (Utf8.decode s pos).2 : Nat) : Int) := by rw [w64 (by omega) (by omega)]; omega
        rw [e]
        simp only
        rw [e5]
        refine Ev.neg (by omega) (Ev.pos (by omega) ?_)
        have h' := ih (pos + (Utf8.decode s pos).2) (acc ++ [((Utf8.decode s pos).1 : Int)]) (by omega) (by simp; omega)
        rw [List.append_assoc] at h'
        exact h'
    · rw [if_neg hp, if_pos rfl, if_neg hp, List.append_nil]
      refine Ev.step (fun k => ?_) (Ev.now _)
      rw [spec_l01Decode.l0, if_neg (by omega)]

theorem decode_drop (s : ByteArray) (pos : Nat) : Lib.decodeL (s.data.toList.drop pos) = Utf8.decode s pos := by
  unfold Lib.decodeL
  have hsz : (⟨(s.data.toList.drop pos).toArray⟩ : ByteArray).size = s.size - pos := by
    show (s.data.toList.drop pos).toArray.size = _
    rw [List.size_toArray, List.length_drop, data_length]
  have hg : ∀ j, (⟨(s.data.toList.drop pos).toArray⟩ : ByteArray).get! j = s.get! (pos + j) := by
    intro j
    rw [← Lib.getD_get!', ← Lib.getD_get!']
    show (s.data.toList.drop pos).getD j 0 = _
    rw [List.getD_eq_getElem?_getD, List.getD_eq_getElem?_getD, List.getElem?_drop]
  rw [Lib.decode_at, Lib.decode_at, hsz, hg, hg, hg, hg]; rfl

theorem valid_from (s : ByteArray) (fuel : Nat) : ∀ pos : Nat, s.size ≤ pos + fuel → Lib.validD (s.data.toList.drop pos) = validFrom s fuel pos := by
  induction fuel with
  | zero =>
    intro pos h
    rw [List.drop_of_length_le (by rw [data_length]; omega), validFrom]; rfl
  | succ n ih =>
    intro pos h
    rw [validFrom]
    by_cases hp : pos < s.size
    · have hne : s.data.toList.drop pos ≠ [] := by
        intro e
        have := congrArg List.length e
        rw [List.length_drop, data_length] at this
        simp at this; omega
      have hw := Lib.width_pos s pos
      rw [if_pos hp, Lib.validD_step _ hne, decode_drop, List.drop_drop, ih (pos + (Utf8.decode s pos).2) (by omega)]
      unfold badAt
      by_cases hb : (Utf8.decode s pos).1 = 65533 ∧ (Utf8.decode s pos).2 = 1
      · rw [if_pos hb, decide_eq_true hb]; rfl
      · rw [if_neg hb, decide_eq_false hb]; rfl
    · rw [if_neg hp, List.drop_of_length_le (by rw [data_length]; omega)]; rfl

theorem valid_all (s : ByteArray) : Lib.validD s.data.toList = validFrom s s.size 0 := by
  have := valid_from s s.size 0 (by omega)
  rwa [List.drop_zero] at this

theorem l01Decode_eq (s : ByteArray) (hs : s.size ≤ 1048576) : Ev (fun k => spec_l01Decode.f k s) (if Lib.validD s.data.toList = true then (impl_Decode.runes s s.size 0, true) else ([], false)) := by
  have h := spec_loop s hs s.size 0 [] (by omega) (by simp)
  rw [List.nil_append] at h
  rw [valid_all]
  exact h

theorem wnS (i : Nat) (h : i ≤ 281474976710656) : wrap64 ((i : Int) + 1) = ((i + 1 : Nat) : Int) := by rw [w64 (by omega) (by omega)]; omega
theorem eqSE (xs : List ByteArray) (hn : xs.length ≤ 140737488351232) : Ev (fun k => laws_eqStringS.f k xs xs) true := by
  unfold laws_eqStringS.f
  refine Ev.pos rfl ?_
  have key : ∀ d i, i + d = xs.length → Ev (fun k => laws_eqStringS.l0 k xs xs (i : Int)) true := by
    intro d
    induction d with
    | zero => intro i hi; exact Ev.step (fun k => by rw [laws_eqStringS.l0, if_neg (by omega)]) (Ev.now _)
    | succ d ih =>
      intro i hi
      refine Ev.step (fun k => ?_) (ih (i + 1) (by omega))
      rw [laws_eqStringS.l0, if_pos (by omega), if_pos (by omega), if_pos (by omega), if_pos rfl, wnS i (by omega)]
  exact key xs.length 0 (by omega)

theorem n0 : ((0 : Nat) : Int) = 0 := rfl
theorem rdS (xs : List ByteArray) (i : Nat) (hi : i < xs.length) : rdOf ByteArray.empty xs (i : Int) = xs[i] := by rw [rdOf, Int.toNat_natCast, List.getD_eq_getElem?_getD, List.getElem?_eq_getElem hi]; rfl
theorem rd89 (xs : List S89) (i : Nat) (hi : i < xs.length) : rd_T89 xs (i : Int) = xs[i] := by unfold rd_T89; rw [Int.toNat_natCast, getD_in xs _ i hi]
theorem rd52 (xs : List S52) (i : Nat) (hi : i < xs.length) : rd_T52 xs (i : Int) = xs[i] := by unfold rd_T52; rw [Int.toNat_natCast, getD_in xs _ i hi]
def toSyn (x : S89) : S52 := ⟨x.f0, x.f1⟩

theorem szS_loop (xs : List ByteArray) (hl : xs.length ≤ 1048576) (hx : ∀ y ∈ xs, y.size ≤ 9223372036854775807) (d : Nat) : ∀ (i : Nat) (a : Int), i + d = xs.length → 0 ≤ a → a ≤ 1048576 →
    ∃ r, Ev (fun k => laws_szStringS.l0 k xs a (i : Int)) r ∧ (r = -1 ∨ (0 ≤ r ∧ r ≤ 1048576 ∧ ∀ j (hj : j < xs.length), i ≤ j → xs[j].size ≤ 1048576)) := by
  induction d with
  | zero =>
    intro i a hi h0 h1
    refine ⟨a, Ev.step (fun k => ?_) (Ev.now _), .inr ⟨h0, h1, fun j hj hij => by omega⟩⟩
    rw [laws_szStringS.l0, if_neg (by omega)]
  | succ d ih =>
    intro i a hi h0 h1
    have hlt : i < xs.length := by omega
    have hz := hx _ (List.getElem_mem hlt)
    have e1 : Aside0 (wrap64 (a - (xs[i].size : Int)) = a - (xs[i].size : Int)) := ⟨w64 (by omega) (by omega)⟩
    have e2 := wnS i (by omega)
    by_cases c : a - (xs[i].size : Int) < 0
    · refine ⟨-1, Ev.step (fun k => ?_) (Ev.now _), .inl rfl⟩
      rw [laws_szStringS.l0, if_pos (by omega), if_pos (by omega), rdS xs i hlt, e1.out, if_pos c]
    · obtain ⟨r, hr, hc⟩ := ih (i + 1) (a - (xs[i].size : Int)) (by omega) (by omega) (by omega)
      refine ⟨r, Ev.step (fun k => ?_) hr, ?_⟩
      · rw [laws_szStringS.l0, if_pos (by omega), if_pos (by omega), rdS xs i hlt, e1.out, if_neg c, e2]
      · rcases hc with hc | ⟨h3, h4, h5⟩
        · exact .inl hc
        · refine .inr ⟨h3, h4, fun j hj hij => ?_⟩
          by_cases e : j = i
          · subst e; omega
          · exact h5 j hj (by omega)
theorem szS_eq (xs : List ByteArray) (hm : xs.length ≤ 9223372036854775807) (hx : ∀ y ∈ xs, y.size ≤ 9223372036854775807) (a : Int) (a0 : 0 ≤ a) (a1 : a ≤ 1048576) :
    ∃ r, Ev (fun k => laws_szStringS.f k xs a) r ∧ (r = -1 ∨ (0 ≤ r ∧ r ≤ 1048576 ∧ xs.length ≤ 1048576 ∧ ∀ y ∈ xs, y.size ≤ 1048576)) := by
  have e : Aside0 (wrap64 (a - (xs.length : Int)) = a - (xs.length : Int)) := ⟨w64 (by omega) (by omega)⟩
  unfold laws_szStringS.f
  rw [e.out]
  by_cases c : a - (xs.length : Int) < 0
  · exact ⟨-1, Ev.pos c (Ev.now _), .inl rfl⟩
  · obtain ⟨r, hr, hc⟩ := szS_loop xs (by omega) hx xs.length 0 (a - (xs.length : Int)) (by omega) (by omega) (by omega)
    rw [n0] at hr
    refine ⟨r, Ev.neg c hr, ?_⟩
    rcases hc with hc | ⟨h3, h4, h5⟩
    · exact .inl hc
    · refine .inr ⟨h3, h4, by omega, fun y hy => ?_⟩
      obtain ⟨j, hj, rfl⟩ := List.getElem_of_mem hy
      exact h5 j hj (by omega)
theorem szY_one (x : S89) (h0 : x.f0.size ≤ 9223372036854775807) (h1 : x.f1.size ≤ 9223372036854775807) (a : Int) (a0 : 0 ≤ a) (a1 : a ≤ 1048576) :
    ∃ r, laws_szSynonym.f x.f0 x.f1 a = some r ∧ (r = -1 ∨ (0 ≤ r ∧ r ≤ 1048576 ∧ x.f0.size ≤ 1048576 ∧ x.f1.size ≤ 1048576)) := by
  unfold laws_szSynonym.f
  have e1 : Aside0 (wrap64 (a - (x.f0.size : Int)) = a - (x.f0.size : Int)) := ⟨w64 (by omega) (by omega)⟩
  rw [e1.out]
  by_cases c : a - (x.f0.size : Int) < 0
  · exact ⟨-1, by rw [if_pos c], .inl rfl⟩
  · have e2 : Aside0 (wrap64 (a - (x.f0.size : Int) - (x.f1.size : Int)) = a - (x.f0.size : Int) - (x.f1.size : Int)) := ⟨w64 (by omega) (by omega)⟩
    rw [if_neg c, e2.out]
    by_cases c2 : a - (x.f0.size : Int) - (x.f1.size : Int) < 0
    · exact ⟨-1, by rw [if_pos c2], .inl rfl⟩
    · exact ⟨_, by rw [if_neg c2], .inr ⟨by omega, by omega, by omega, by omega⟩⟩
theorem szY_loop (xs : List S89) (hl : xs.length ≤ 1048576) (hx : ∀ y ∈ xs, y.f0.size ≤ 9223372036854775807 ∧ y.f1.size ≤ 9223372036854775807) (d : Nat) : ∀ (i : Nat) (a : Int), i + d = xs.length → 0 ≤ a → a ≤ 1048576 →
    ∃ r, Ev (fun k => laws_szSynonymS.l0 k xs a (i : Int)) r ∧ (r = -1 ∨ (0 ≤ r ∧ r ≤ 1048576 ∧ ∀ j (hj : j < xs.length), i ≤ j → xs[j].f0.size ≤ 1048576 ∧ xs[j].f1.size ≤ 1048576)) := by
  induction d with
  | zero =>
    intro i a hi h0 h1
    refine ⟨a, Ev.step (fun k => ?_) (Ev.now _), .inr ⟨h0, h1, fun j hj hij => by omega⟩⟩
    rw [laws_szSynonymS.l0, if_neg (by omega)]
  | succ d ih =>
    intro i a hi h0 h1
    have hlt : i < xs.length := by omega
    obtain ⟨g0, g1⟩ := hx _ (List.getElem_mem hlt)
    obtain ⟨r, hr, hc⟩ := szY_one xs[i] g0 g1 a h0 h1
    have e2 := wnS i (by omega)
    rcases hc with rfl | ⟨q0, q1, q2, q3⟩
    · refine ⟨-1, Ev.step (fun k => ?_) (Ev.now _), .inl rfl⟩
      rw [laws_szSynonymS.l0, if_pos (by omega), if_pos (by omega), rd89 xs i hlt, hr]; rfl
    · obtain ⟨r2, h2, h3⟩ := ih (i + 1) r (by omega) q0 q1
      refine ⟨r2, Ev.step (fun k => ?_) h2, ?_⟩
      · rw [laws_szSynonymS.l0, if_pos (by omega), if_pos (by omega), rd89 xs i hlt, hr, Option.bind_some, if_neg (by omega), e2]
      · rcases h3 with h3 | ⟨h3, h3b, h4⟩
        · exact .inl h3
        · refine .inr ⟨h3, h3b, fun j hj hij => ?_⟩
          by_cases e : j = i
          · subst e; exact ⟨q2, q3⟩
          · exact h4 j hj (by omega)
theorem szY_eq (xs : List S89) (hm : xs.length ≤ 9223372036854775807) (hx : ∀ y ∈ xs, y.f0.size ≤ 9223372036854775807 ∧ y.f1.size ≤ 9223372036854775807) (a : Int) (a0 : 0 ≤ a) (a1 : a ≤ 1048576) :
    ∃ r, Ev (fun k => laws_szSynonymS.f k xs a) r ∧ (r = -1 ∨ (0 ≤ r ∧ r ≤ 1048576 ∧ xs.length ≤ 1048576 ∧ ∀ y ∈ xs, y.f0.size ≤ 1048576 ∧ y.f1.size ≤ 1048576)) := by
  have e : Aside0 (wrap64 (a - (xs.length : Int)) = a - (xs.length : Int)) := ⟨w64 (by omega) (by omega)⟩
  unfold laws_szSynonymS.f
  rw [e.out]
  by_cases c : a - (xs.length : Int) < 0
  · exact ⟨-1, Ev.pos c (Ev.now _), .inl rfl⟩
  · obtain ⟨r, hr, hc⟩ := szY_loop xs (by omega) hx xs.length 0 (a - (xs.length : Int)) (by omega) (by omega) (by omega)
    rw [n0] at hr
    refine ⟨r, Ev.neg c hr, ?_⟩
    rcases hc with hc | ⟨h3, h3b, h4⟩
    · exact .inl hc
    · refine .inr ⟨h3, h3b, by omega, fun y hy => ?_⟩
      obtain ⟨j, hj, rfl⟩ := List.getElem_of_mem hy
      exact h4 j hj (by omega)

theorem toS_eq (l : List ByteArray) (h : l.length ≤ 1048576) : Ev (fun k => laws_toStringS.f k l) l := by
  unfold laws_toStringS.f
  refine Ev.pos (by omega) (Ev.pos (by omega) ?_)
  rw [Int.toNat_natCast]
  have := conv_all laws_toStringS.l0 l id (⟨#[]⟩ : ByteArray) (fun i hi ys r hl hr => ?_) (fun ys => ?_)
  · rw [List.map_id] at this; exact this
  · refine Ev.step (fun k => ?_) hr
    rw [laws_toStringS.l0, if_pos (by omega), if_pos (by omega), if_pos (by omega), rdS l i hi, wnS i (by omega), Int.toNat_natCast]; rfl
  · refine Ev.step (fun k => ?_) (Ev.now _)
    rw [laws_toStringS.l0, if_neg (by omega)]
theorem toY_eq (l : List S89) (h : l.length ≤ 1048576) : Ev (fun k => laws_toSynonymS.f k l) (l.map toSyn) := by
  unfold laws_toSynonymS.f
  refine Ev.pos (by omega) (Ev.pos (by omega) ?_)
  rw [Int.toNat_natCast]
  refine conv_all laws_toSynonymS.l0 l toSyn z52 (fun i hi ys r hl hr => ?_) (fun ys => ?_)
  · refine Ev.step (fun k => ?_) hr
    rw [laws_toSynonymS.l0, if_pos (by omega), if_pos (by omega), rd89 l i hi]
    simp only [laws_toSynonym.f, Option.bind_some]
    rw [if_pos (by omega), wnS i (by omega), Int.toNat_natCast]; rfl
  · refine Ev.step (fun k => ?_) (Ev.now _)
    rw [laws_toSynonymS.l0, if_neg (by omega)]
theorem eqY (l : List S52) (h : l.length ≤ 1048576) : Ev (fun k => laws_eqSynonymS.f k l l) true := by
  unfold laws_eqSynonymS.f
  refine Ev.pos rfl (same_all laws_eqSynonymS.l0 l (fun i hi hr => ?_) ?_)
  · refine Ev.step (fun k => ?_) hr
    rw [laws_eqSynonymS.l0, if_pos (by omega), if_pos (by omega), if_pos (by omega), rd52 l i hi, wnS i (by omega)]
    simp [laws_eqSynonym.f]
  · refine Ev.step (fun k => ?_) (Ev.now _)
    rw [laws_eqSynonymS.l0, if_neg (by omega)]

def wordB (t : ByteArray) : Bool := if (t.size : Int) ≥ 1 then (if (t.size : Int) ≤ 64 then Lib.validD t.data.toList else false) else false
theorem spec_word (t : ByteArray) (h : t.size ≤ 1048576) : Ev (fun k => spec_l02TermOK.f k t) (wordB t) := by
  unfold spec_l02TermOK.f wordB
  have hd := l01Decode_eq t h
  refine Ev.bind hd ?_
  by_cases c1 : (t.size : Int) ≥ 1
  · rw [if_pos c1, if_pos c1]
    by_cases c2 : (t.size : Int) ≤ 64
    · rw [if_pos c2, if_pos c2]
      by_cases v : Lib.validD t.data.toList = true
      · rw [if_pos v, v]; exact Ev.now _
      · rw [if_neg v, show Lib.validD t.data.toList = false by simpa using v]; exact Ev.now _
    · rw [if_neg c2, if_neg c2]; exact Ev.now _
  · rw [if_neg c1, if_neg c1]; exact Ev.now _
theorem impl_word (t : ByteArray) (h : t.size ≤ 1048576) : impl_wordOK.f t = some (wordB t) := by
  unfold impl_wordOK.f wordB utf8_ValidString.f
  by_cases c1 : (t.size : Int) ≥ 1
  · rw [if_pos c1, if_pos c1]
    by_cases c2 : (t.size : Int) ≤ 64
    · rw [if_pos c2, if_pos c2, if_pos (by omega), Option.bind_some]
    · rw [if_neg c2, if_neg c2]
  · rw [if_neg c1, if_neg c1]
def gramB (lo hi : Int) : Bool := decide (1 ≤ lo ∧ lo ≤ hi ∧ hi ≤ 8)
theorem spec_gram (lo hi : Int) : (if lo ≥ 1 then (if lo ≤ hi then (some (decide (hi ≤ 8))) else (some false)) else (some false)) = some (gramB lo hi) := by
  unfold gramB
  (repeat' split) <;> (congr 1; rw [Bool.eq_iff_iff]; simp; try omega)
theorem impl_gram (lo hi : Int) : impl_gramBounds.f lo hi = some (gramB lo hi) := by
  unfold impl_gramBounds.f; exact spec_gram lo hi
theorem loopY (b0 b1 b2 : Bool) (ss : List ByteArray) (ys : List S52) (lo hi : Int) (hl : ys.length ≤ 1048576) (hx : ∀ y ∈ ys, y.f0.size ≤ 1048576 ∧ y.f1.size ≤ 1048576) (d : Nat) : ∀ i : Nat, i + d = ys.length →
    ∃ r, Ev (fun k => spec_AnalyzerOK.l1 k (i : Int) b0 b1 b2 ss ys lo hi) r ∧ Ev (fun k => impl_AnalyzerOK.l1 k ys (ys.length : Int) (i : Int) b0 b1 b2 ss ys lo hi) r := by
  induction d with
  | zero =>
    intro i h
    by_cases c0 : lo = 0
    · by_cases c1 : hi = 0
      · refine ⟨true, Ev.step (fun k => ?_) (Ev.now _), Ev.step (fun k => ?_) (Ev.now _)⟩
        · rw [spec_AnalyzerOK.l1, if_neg (by omega), if_pos c0, if_pos c1]
        · rw [impl_AnalyzerOK.l1, if_neg (by omega), if_pos c0, if_pos c1]
      · refine ⟨gramB lo hi, Ev.step (fun k => ?_) (Ev.now _), Ev.step (fun k => ?_) (Ev.now _)⟩
        · rw [spec_AnalyzerOK.l1, if_neg (by omega), if_pos c0, if_neg c1, spec_gram]
        · rw [impl_AnalyzerOK.l1, if_neg (by omega), if_pos c0, if_neg c1, impl_gram, Option.bind_some]
    · refine ⟨gramB lo hi, Ev.step (fun k => ?_) (Ev.now _), Ev.step (fun k => ?_) (Ev.now _)⟩
      · rw [spec_AnalyzerOK.l1, if_neg (by omega), if_neg c0, spec_gram]
      · rw [impl_AnalyzerOK.l1, if_neg (by omega), if_neg c0, impl_gram, Option.bind_some]
  | succ d ih =>
    intro i h
    have hlt : i < ys.length := by omega
    obtain ⟨g0, g1⟩ := hx _ (List.getElem_mem hlt)
    have so : ∀ r, Ev (fun k => (spec_l02TermOK.f k ys[i].f0).bind fun t143 => (if t143 = true then ((spec_l02TermOK.f k ys[i].f1).bind fun t145 => (if t145 = true then (spec_AnalyzerOK.j3 k (i : Int) (ys[i].f0.toList == ys[i].f1.toList) b0 b1 b2 ss ys lo hi) else (spec_AnalyzerOK.j3 k (i : Int) true b0 b1 b2 ss ys lo hi))) else (spec_AnalyzerOK.j3 k (i : Int) true b0 b1 b2 ss ys lo hi))) r → Ev (fun k => spec_AnalyzerOK.l1 k (i : Int) b0 b1 b2 ss ys lo hi) r := by
      intro r hr
      refine Ev.step (fun k => ?_) hr
      rw [spec_AnalyzerOK.l1, if_pos (by omega), if_pos (by omega), rd52 ys i hlt]
    have io : ∀ r, Ev (fun k => if wordB ys[i].f0 = true then (if wordB ys[i].f1 = true then (impl_AnalyzerOK.j3 k ys (ys.length : Int) (i : Int) (ys[i].f0.toList == ys[i].f1.toList) b0 b1 b2 ss ys lo hi) else (impl_AnalyzerOK.j3 k ys (ys.length : Int) (i : Int) true b0 b1 b2 ss ys lo hi)) else (impl_AnalyzerOK.j3 k ys (ys.length : Int) (i : Int) true b0 b1 b2 ss ys lo hi)) r → Ev (fun k => impl_AnalyzerOK.l1 k ys (ys.length : Int) (i : Int) b0 b1 b2 ss ys lo hi) r := by
      intro r hr
      refine Ev.step (fun k => ?_) hr
      rw [impl_AnalyzerOK.l1, if_pos (by omega), if_pos (by omega), if_pos (by omega), rd52 ys i hlt, impl_word _ g0, impl_word _ g1]
      rfl
    have w0 := spec_word _ g0
    have w1 := spec_word _ g1
    have sj : Ev (fun k => spec_AnalyzerOK.j3 k (i : Int) true b0 b1 b2 ss ys lo hi) false := Ev.step (fun k => by rw [spec_AnalyzerOK.j3, if_pos rfl]) (Ev.now _)
    have ij : Ev (fun k => impl_AnalyzerOK.j3 k ys (ys.length : Int) (i : Int) true b0 b1 b2 ss ys lo hi) false := Ev.step (fun k => by rw [impl_AnalyzerOK.j3, if_pos rfl]) (Ev.now _)
    by_cases c0 : wordB ys[i].f0 = true
    · by_cases c1 : wordB ys[i].f1 = true
      · by_cases c2 : ys[i].f0.toList = ys[i].f1.toList
        · have e : (ys[i].f0.toList == ys[i].f1.toList) = true := beq_iff_eq.2 c2
          rw [e] at so io
          exact ⟨false, so _ (Ev.bind w0 (Ev.pos c0 (Ev.bind w1 (Ev.pos c1 sj)))), io _ (Ev.pos c0 (Ev.pos c1 ij))⟩
        · have e : (ys[i].f0.toList == ys[i].f1.toList) = false := beq_eq_false_iff_ne.2 c2
          rw [e] at so io
          obtain ⟨r, h1, h2⟩ := ih (i + 1) (by omega)
          refine ⟨r, so _ (Ev.bind w0 (Ev.pos c0 (Ev.bind w1 (Ev.pos c1 (Ev.step (fun k => ?_) h1))))), io _ (Ev.pos c0 (Ev.pos c1 (Ev.step (fun k => ?_) h2)))⟩
          · rw [spec_AnalyzerOK.j3, if_neg Bool.false_ne_true, wnS i (by omega)]
          · rw [impl_AnalyzerOK.j3, if_neg Bool.false_ne_true, wnS i (by omega)]
      · exact ⟨false, so _ (Ev.bind w0 (Ev.pos c0 (Ev.bind w1 (Ev.neg c1 sj)))), io _ (Ev.pos c0 (Ev.neg c1 ij))⟩
    · exact ⟨false, so _ (Ev.bind w0 (Ev.neg c0 sj)), io _ (Ev.neg c0 ij)⟩
theorem loopS (b0 b1 b2 : Bool) (ss : List ByteArray) (ys : List S52) (lo hi : Int) (hs : ss.length ≤ 1048576) (hsx : ∀ y ∈ ss, y.size ≤ 1048576) (hl : ys.length ≤ 1048576) (hx : ∀ y ∈ ys, y.f0.size ≤ 1048576 ∧ y.f1.size ≤ 1048576) (d : Nat) : ∀ i : Nat, i + d = ss.length →
    ∃ r, Ev (fun k => spec_AnalyzerOK.l0 k (i : Int) b0 b1 b2 ss ys lo hi) r ∧ Ev (fun k => impl_AnalyzerOK.l0 k ss (ss.length : Int) (i : Int) b0 b1 b2 ss ys lo hi) r := by
  induction d with
  | zero =>
    intro i h
    obtain ⟨r, h1, h2⟩ := loopY b0 b1 b2 ss ys lo hi hl hx ys.length 0 (by omega)
    refine ⟨r, Ev.step (fun k => ?_) h1, Ev.step (fun k => ?_) h2⟩
    · rw [spec_AnalyzerOK.l0, if_neg (by omega)]; rfl
    · rw [impl_AnalyzerOK.l0, if_neg (by omega)]; rfl
  | succ d ih =>
    intro i h
    have hlt : i < ss.length := by omega
    have g0 := hsx _ (List.getElem_mem hlt)
    have so : ∀ r, Ev (fun k => (spec_l02TermOK.f k ss[i]).bind fun t141 => (if t141 = true then (spec_AnalyzerOK.l0 k ((i + 1 : Nat) : Int) b0 b1 b2 ss ys lo hi) else (some false))) r → Ev (fun k => spec_AnalyzerOK.l0 k (i : Int) b0 b1 b2 ss ys lo hi) r := by
      intro r hr
      refine Ev.step (fun k => ?_) hr
      rw [spec_AnalyzerOK.l0, if_pos (by omega), if_pos (by omega), rdS ss i hlt, wnS i (by omega)]
    have io : ∀ r, Ev (fun k => if wordB ss[i] = true then (impl_AnalyzerOK.l0 k ss (ss.length : Int) ((i + 1 : Nat) : Int) b0 b1 b2 ss ys lo hi) else (some false)) r → Ev (fun k => impl_AnalyzerOK.l0 k ss (ss.length : Int) (i : Int) b0 b1 b2 ss ys lo hi) r := by
      intro r hr
      refine Ev.step (fun k => ?_) hr
      rw [impl_AnalyzerOK.l0, if_pos (by omega), if_pos (by omega), if_pos (by omega), rdS ss i hlt, wnS i (by omega), impl_word _ g0]
      rfl
    have w0 := spec_word _ g0
    by_cases c0 : wordB ss[i] = true
    · obtain ⟨r, h1, h2⟩ := ih (i + 1) (by omega)
      exact ⟨r, so _ (Ev.bind w0 (Ev.pos c0 h1)), io _ (Ev.pos c0 h2)⟩
    · exact ⟨false, so _ (Ev.bind w0 (Ev.neg c0 (Ev.now _))), io _ (Ev.neg c0 (Ev.now _))⟩
theorem ok_both (b0 b1 b2 : Bool) (ss : List ByteArray) (ys : List S52) (lo hi : Int) (hs : ss.length ≤ 1048576) (hsx : ∀ y ∈ ss, y.size ≤ 1048576) (hl : ys.length ≤ 1048576) (hx : ∀ y ∈ ys, y.f0.size ≤ 1048576 ∧ y.f1.size ≤ 1048576) :
    ∃ r, Ev (fun k => spec_AnalyzerOK.f k b0 b1 b2 ss ys lo hi) r ∧ Ev (fun k => impl_AnalyzerOK.f k b0 b1 b2 ss ys lo hi) r := by
  unfold spec_AnalyzerOK.f impl_AnalyzerOK.f
  have bad : ∀ b, b = true → Ev (fun k => spec_AnalyzerOK.j0 k b b0 b1 b2 ss ys lo hi) false ∧ Ev (fun k => impl_AnalyzerOK.j0 k b b0 b1 b2 ss ys lo hi) false := by
    intro b hb
    refine ⟨Ev.step (fun k => ?_) (Ev.now _), Ev.step (fun k => ?_) (Ev.now _)⟩
    · rw [spec_AnalyzerOK.j0, if_pos hb]
    · rw [impl_AnalyzerOK.j0, if_pos hb]
  by_cases c : (ss.length : Int) > 64
  · exact ⟨false, Ev.pos c (bad true rfl).1, Ev.pos c (bad true rfl).2⟩
  · by_cases c2 : (ys.length : Int) > 64
    · exact ⟨false, Ev.neg c (bad _ (decide_eq_true c2)).1, Ev.neg c (bad _ (decide_eq_true c2)).2⟩
    · obtain ⟨r, h1, h2⟩ := loopS b0 b1 b2 ss ys lo hi hs hsx hl hx ss.length 0 (by omega)
      refine ⟨r, Ev.neg c (Ev.step (fun k => ?_) h1), Ev.neg c (Ev.step (fun k => ?_) h2)⟩
      · rw [spec_AnalyzerOK.j0, decide_eq_false c2, if_neg (by decide)]; rfl
      · rw [impl_AnalyzerOK.j0, decide_eq_false c2, if_neg (by decide)]; rfl

def chrB (b : Int) : Bool := decide (97 ≤ b ∧ b ≤ 122) || (decide (48 ≤ b ∧ b ≤ 57) || decide (b = 95))
def headB (t : ByteArray) : Bool := decide (1 ≤ t.size ∧ t.size ≤ 30) && decide (97 ≤ bt t 0 ∧ bt t 0 ≤ 122)
def nameB (t : ByteArray) : Bool := headB t && (bytesOf t).all chrB
theorem bt_here (t : ByteArray) (i : Nat) (h : i < (bytesOf t).length) : bt t (i : Int) = (bytesOf t)[i] := by
  rw [← rd_bytesOf]; exact rd_lt _ i h
theorem chr_stop {b : Int} (h : chrB b = false) : (b < 97 ∨ b > 122) ∧ (b < 48 ∨ b > 57) ∧ b ≠ 95 := by
  unfold chrB at h
  simp only [Bool.or_eq_false_iff, decide_eq_false_iff_not] at h
  omega
theorem chr_go {b : Int} (h : chrB b = true) : (97 ≤ b ∧ b ≤ 122) ∨ (48 ≤ b ∧ b ≤ 57) ∨ b = 95 := by
  unfold chrB at h
  simp only [Bool.or_eq_true, decide_eq_true_eq] at h
  omega
theorem spec_name_l (t : ByteArray) (hn : t.size ≤ 1048576) (d : Nat) : ∀ i, i + d = (bytesOf t).length → Ev (fun k => spec_l06Name.l0 k t (i : Int)) (((bytesOf t).drop i).all chrB) := by
  have hl := bytesOf_length t
  induction d with
  | zero =>
    intro i hi
    rw [List.drop_of_length_le (by omega)]
    rw [List.all_nil]
    exact Ev.step (fun k => by rw [spec_l06Name.l0, if_neg (by omega)]) (Ev.now _)
  | succ d ih =>
    intro i hi
    have hi' : i < (bytesOf t).length := by omega
    rw [List.drop_eq_getElem_cons hi', List.all_cons]
    have no : Ev (fun k => spec_l06Name.j2 k t (i : Int) true) false := Ev.step (fun k => by rw [spec_l06Name.j2, if_pos rfl]) (Ev.now _)
    have yes : Ev (fun k => spec_l06Name.j2 k t (i : Int) false) (((bytesOf t).drop (i + 1)).all chrB) := Ev.step (fun k => by rw [spec_l06Name.j2, if_neg Bool.false_ne_true, wnS i (by omega)]) (ih (i + 1) (by omega))
    refine Ev.step (fun k => by rw [spec_l06Name.l0, if_pos (by omega), if_pos (by omega), bt_here t i hi']) ?_
    generalize (bytesOf t)[i]'hi' = b
    by_cases hc : chrB b = true
    · rw [hc, Bool.true_and]
      have h := chr_go hc
      by_cases c1 : b < 97
      · refine Ev.pos c1 ?_
        by_cases c2 : b < 48
        · omega
        · refine Ev.neg c2 ?_
          by_cases c3 : b > 57
          · refine Ev.pos c3 ?_
            rw [show (b != 95) = false from bne_eq_false_iff_eq.2 (by omega)]
            exact yes
          · exact Ev.neg c3 yes
      · refine Ev.neg c1 ?_
        by_cases c4 : b > 122
        · omega
        · exact Ev.neg c4 yes
    · have hc' : chrB b = false := by simpa using hc
      rw [hc', Bool.false_and]
      have h := chr_stop hc'
      have e : (b != 95) = true := bne_iff_ne.2 h.2.2
      rw [e]
      by_cases c1 : b < 97
      · refine Ev.pos c1 ?_
        by_cases c2 : b < 48
        · exact Ev.pos c2 no
        · exact Ev.neg c2 (Ev.pos (by omega) no)
      · refine Ev.neg c1 (Ev.pos (by omega) ?_)
        by_cases c2 : b < 48
        · exact Ev.pos c2 no
        · exact Ev.neg c2 (Ev.pos (by omega) no)
theorem head_walk {α : Type} (t : ByteArray) (F : Nat → Bool → Option α) (r : α) (h1 : headB t = false → Ev (fun k => F k true) r) (h2 : headB t = true → Ev (fun k => F k false) r) :
    Ev (fun k => if (t.size : Int) < 1 then F k true else (if (t.size : Int) > 30 then F k true else (if 0 < (t.size : Int) then (if (bt t 0) < 97 then F k true else F k (decide ((bt t 0) > 122))) else none))) r := by
  by_cases c1 : (t.size : Int) < 1
  · exact Ev.pos c1 (h1 (by unfold headB; rw [decide_eq_false (by omega), Bool.false_and]))
  · refine Ev.neg c1 ?_
    by_cases c2 : (t.size : Int) > 30
    · exact Ev.pos c2 (h1 (by unfold headB; rw [decide_eq_false (by omega), Bool.false_and]))
    · refine Ev.neg c2 (Ev.pos (by omega) ?_)
      by_cases c3 : bt t 0 < 97
      · exact Ev.pos c3 (h1 (by unfold headB; rw [decide_eq_false (p := 97 ≤ bt t 0 ∧ bt t 0 ≤ 122) (by omega), Bool.and_false]))
      · refine Ev.neg c3 ?_
        by_cases c4 : bt t 0 > 122
        · rw [decide_eq_true c4]
          exact h1 (by unfold headB; rw [decide_eq_false (p := 97 ≤ bt t 0 ∧ bt t 0 ≤ 122) (by omega), Bool.and_false])
        · rw [decide_eq_false c4]
          exact h2 (by unfold headB; rw [decide_eq_true (by omega), decide_eq_true (by omega)]; rfl)
theorem spec_name (t : ByteArray) (hn : t.size ≤ 1048576) : Ev (fun k => spec_l06Name.f k t) (nameB t) := by
  unfold spec_l06Name.f
  refine head_walk t (fun k b => spec_l06Name.j0 k t b) _ (fun h => ?_) (fun h => ?_)
  · rw [show nameB t = false by unfold nameB; rw [h]; rfl]
    exact Ev.step (fun k => by rw [spec_l06Name.j0, if_pos rfl]) (Ev.now _)
  · have e : nameB t = ((bytesOf t).drop 0).all chrB := by unfold nameB; rw [h, Bool.true_and, List.drop_zero]
    rw [e]
    have h0 := spec_name_l t hn (bytesOf t).length 0 (by omega)
    rw [n0] at h0
    exact Ev.step (fun k => by rw [spec_l06Name.j0, if_neg Bool.false_ne_true]) h0
def setL : List UInt8 := [97, 98, 99, 100, 101, 102, 103, 104, 105, 106, 107, 108, 109, 110, 111, 112, 113, 114, 115, 116, 117, 118, 119, 120, 121, 122, 48, 49, 50, 51, 52, 53, 54, 55, 56, 57, 95]
set_option maxRecDepth 20000 in
theorem set_chr : ∀ n : Fin 256, setL.contains (UInt8.ofNat n.val) = chrB (n.val : Int) := by decide
theorem set_chr' (c : UInt8) : setL.contains c = chrB (c.toNat : Int) := by
  have h := set_chr ⟨c.toNat, c.toNat_lt⟩
  rw [UInt8.ofNat_toNat] at h
  exact h
theorem dw_nil (p : UInt8 → Bool) : ∀ l : List UInt8, l.dropWhile p = [] ↔ ∀ c ∈ l, p c = true
  | [] => by simp
  | a :: l => by
    rw [List.dropWhile_cons]
    by_cases h : p a = true
    · rw [if_pos h, dw_nil p l]; simp [h]
    · rw [if_neg h]; simp [h]
theorem tw_mem (p : UInt8 → Bool) (c : UInt8) : ∀ l : List UInt8, c ∈ l.takeWhile p → p c = true
  | [], h => by cases h
  | a :: l, h => by
    rw [List.takeWhile_cons] at h
    by_cases hp : p a = true
    · rw [if_pos hp] at h
      rcases List.mem_cons.1 h with rfl | h
      · exact hp
      · exact tw_mem p c l h
    · rw [if_neg hp] at h; cases h
theorem trim_nil (l cs : List UInt8) : (Lib.trimS l cs = []) ↔ ∀ c ∈ l, cs.contains c = true := by
  unfold Lib.trimS Lib.trimLeftS Lib.trimRightS
  rw [dw_nil]
  constructor
  · intro h c hc
    have hr : c ∈ l.reverse := List.mem_reverse.2 hc
    rw [← List.takeWhile_append_dropWhile (p := (cs.contains ·)) (l := l.reverse)] at hr
    rcases List.mem_append.1 hr with hr | hr
    · exact tw_mem _ c _ hr
    · exact h c (List.mem_reverse.2 hr)
  · intro h c hc
    have h2 := List.mem_reverse.1 hc
    exact h c (List.mem_reverse.1 ((List.dropWhile_sublist _).mem h2))
theorem impl_name (t : ByteArray) (hn : t.size ≤ 1048576) : Ev (fun k => impl_nameOK.f k t) (nameB t) := by
  unfold impl_nameOK.f
  refine head_walk t (fun k b => impl_nameOK.j0 k t b) _ (fun h => ?_) (fun h => ?_)
  · rw [show nameB t = false by unfold nameB; rw [h]; rfl]
    exact Ev.step (fun k => by rw [impl_nameOK.j0, if_pos rfl]) (Ev.now _)
  · have e : nameB t = (bytesOf t).all chrB := by unfold nameB; rw [h, Bool.true_and]
    rw [e]
    refine Ev.step (fun k => by rw [impl_nameOK.j0, if_neg Bool.false_ne_true]) ?_
    unfold strings_Trim.f
    rw [if_pos (by omega), if_pos (by decide), if_pos (by decide), Option.bind_some]
    have key : ((⟨(Lib.trimS t.data.toList setL).toArray⟩ : ByteArray).toList == ([] : List UInt8)) = (bytesOf t).all chrB := by
      have e2 : (⟨(Lib.trimS t.data.toList setL).toArray⟩ : ByteArray).toList = Lib.trimS t.data.toList setL := by
        rw [Lib.toList_data]
      rw [e2, Bool.eq_iff_iff, beq_iff_eq, trim_nil, List.all_eq_true]
      unfold bytesOf
      constructor
      · intro h2 x hx
        obtain ⟨c, hc, rfl⟩ := List.mem_map.1 hx
        rw [← set_chr']; exact h2 c hc
      · intro h2 c hc
        rw [set_chr']; exact h2 _ (List.mem_map.2 ⟨c, hc, rfl⟩)
    exact Ev.ofEq (congrArg some key)
def okF (y : S39) : Prop := y.f0.size ≤ 1048576 ∧ y.f2.f3.length ≤ 1048576 ∧ (∀ s ∈ y.f2.f3, s.size ≤ 1048576) ∧ y.f2.f4.length ≤ 1048576 ∧ ∀ s ∈ y.f2.f4, s.f0.size ≤ 1048576 ∧ s.f1.size ≤ 1048576
def toFld (x : S50) : S39 := ⟨x.f0, x.f1, ⟨x.f2.f0, x.f2.f1, x.f2.f2, x.f2.f3, x.f2.f4.map toSyn, x.f2.f5, x.f2.f6⟩⟩
theorem rd50 (xs : List S50) (i : Nat) (hi : i < xs.length) : rd_T50 xs (i : Int) = xs[i] := by unfold rd_T50; rw [Int.toNat_natCast, getD_in xs _ i hi]
theorem rd39 (xs : List S39) (i : Nat) (hi : i < xs.length) : rd_T39 xs (i : Int) = xs[i] := by unfold rd_T39; rw [Int.toNat_natCast, getD_in xs _ i hi]
def bigF (x : S50) : Prop := x.f0.size ≤ 9223372036854775807 ∧ (x.f2.f3.length ≤ 9223372036854775807 ∧ ∀ y ∈ x.f2.f3, y.size ≤ 9223372036854775807) ∧ x.f2.f4.length ≤ 9223372036854775807 ∧ ∀ y ∈ x.f2.f4, y.f0.size ≤ 9223372036854775807 ∧ y.f1.size ≤ 9223372036854775807
theorem szF_one (x : S50) (hx : bigF x) (a : Int) (a0 : 0 ≤ a) (a1 : a ≤ 1048576) :
    ∃ r, Ev (fun k => laws_szFieldDef.f k x.f0 x.f1 x.f2.f0 x.f2.f1 x.f2.f2 x.f2.f3 x.f2.f4 x.f2.f5 x.f2.f6 a) r ∧ (r = -1 ∨ (0 ≤ r ∧ r ≤ 1048576 ∧ okF (toFld x))) := by
  obtain ⟨h0, ⟨h1, h2⟩, h3, h4⟩ := hx
  have e : Aside0 (wrap64 (a - (x.f0.size : Int)) = a - (x.f0.size : Int)) := ⟨w64 (by omega) (by omega)⟩
  unfold laws_szFieldDef.f
  rw [e.out]
  by_cases c : a - (x.f0.size : Int) < 0
  · exact ⟨-1, Ev.pos c (Ev.now _), .inl rfl⟩
  · obtain ⟨r1, e1, d1⟩ := szS_eq x.f2.f3 h1 h2 (a - (x.f0.size : Int)) (by omega) (by omega)
    have fin : ∀ r2 : Int, Ev (fun k => laws_szAnalyzer.f k x.f2.f0 x.f2.f1 x.f2.f2 x.f2.f3 x.f2.f4 x.f2.f5 x.f2.f6 (a - (x.f0.size : Int))) r2 → ∀ r, Ev (fun _ => if r2 < 0 then (some (-1)) else (some r2)) r → Ev (fun k => if a - (x.f0.size : Int) < 0 then (some (-1)) else ((laws_szAnalyzer.f k x.f2.f0 x.f2.f1 x.f2.f2 x.f2.f3 x.f2.f4 x.f2.f5 x.f2.f6 (a - (x.f0.size : Int))).bind fun t109 => (if t109 < 0 then (some (-1)) else (some t109)))) r := fun r2 h r hr => Ev.neg c (Ev.bind h hr)
    have sz : ∀ r, Ev (fun k => if r1 < 0 then (some (-1)) else ((laws_szSynonymS.f k x.f2.f4 r1).bind fun t107 => (if t107 < 0 then (some (-1)) else (some t107)))) r → Ev (fun k => laws_szAnalyzer.f k x.f2.f0 x.f2.f1 x.f2.f2 x.f2.f3 x.f2.f4 x.f2.f5 x.f2.f6 (a - (x.f0.size : Int))) r := by
      intro r hr
      unfold laws_szAnalyzer.f
      exact Ev.bind e1 hr
    rcases d1 with rfl | ⟨q0, q1, q2, q3⟩
    · exact ⟨-1, fin (-1) (sz (-1) (Ev.pos (by decide) (Ev.now _))) _ (Ev.pos (by decide) (Ev.now _)), .inl rfl⟩
    · obtain ⟨r2, e2, d2⟩ := szY_eq x.f2.f4 h3 h4 r1 q0 q1
      rcases d2 with rfl | ⟨p0, pb, p1, p2⟩
      · exact ⟨-1, fin (-1) (sz (-1) (Ev.neg (by omega) (Ev.bind e2 (Ev.pos (by decide) (Ev.now _))))) _ (Ev.pos (by decide) (Ev.now _)), .inl rfl⟩
      · refine ⟨r2, fin r2 (sz r2 (Ev.neg (by omega) (Ev.bind e2 (Ev.neg (by omega) (Ev.now _))))) _ (Ev.neg (by omega) (Ev.now _)), .inr ⟨p0, pb, by show x.f0.size ≤ 1048576; omega, q2, q3, ?_, ?_⟩⟩
        · show (x.f2.f4.map toSyn).length ≤ 1048576
          rw [List.length_map]; exact p1
        · intro s hs
          obtain ⟨z, hz, rfl⟩ := List.mem_map.1 (show s ∈ x.f2.f4.map toSyn from hs)
          exact p2 z hz
theorem szF_loop (xs : List S50) (hl : xs.length ≤ 1048576) (hx : ∀ y ∈ xs, bigF y) (d : Nat) : ∀ (i : Nat) (a : Int), i + d = xs.length → 0 ≤ a → a ≤ 1048576 →
    ∃ r, Ev (fun k => laws_szFieldDefS.l0 k xs a (i : Int)) r ∧ (r = -1 ∨ (0 ≤ r ∧ ∀ j (hj : j < xs.length), i ≤ j → okF (toFld xs[j]))) := by
  induction d with
  | zero =>
    intro i a hi h0 h1
    refine ⟨a, Ev.step (fun k => ?_) (Ev.now _), .inr ⟨h0, fun j hj hij => by omega⟩⟩
    rw [laws_szFieldDefS.l0, if_neg (by omega)]
  | succ d ih =>
    intro i a hi h0 h1
    have hlt : i < xs.length := by omega
    obtain ⟨r, hr, hc⟩ := szF_one xs[i] (hx _ (List.getElem_mem hlt)) a h0 h1
    have e2 := wnS i (by omega)
    have st : ∀ r2, Ev (fun k => if r < 0 then (some (-1)) else (laws_szFieldDefS.l0 k xs r ((i + 1 : Nat) : Int))) r2 → Ev (fun k => laws_szFieldDefS.l0 k xs a (i : Int)) r2 := fun r2 h =>
      Ev.step (fun k => by rw [laws_szFieldDefS.l0, if_pos (by omega), if_pos (by omega), rd50 xs i hlt, e2]) (Ev.bind hr h)
    rcases hc with rfl | ⟨q0, q1, q2⟩
    · exact ⟨-1, st _ (Ev.pos (by decide) (Ev.now _)), .inl rfl⟩
    · obtain ⟨r2, h2, h3⟩ := ih (i + 1) r (by omega) q0 q1
      refine ⟨r2, st _ (Ev.neg (by omega) h2), ?_⟩
      rcases h3 with h3 | ⟨h3, h4⟩
      · exact .inl h3
      · refine .inr ⟨h3, fun j hj hij => ?_⟩
        by_cases e : j = i
        · subst e; exact q2
        · exact h4 j hj (by omega)
theorem szF_eq (xs : List S50) (hm : xs.length ≤ 9223372036854775807) (hx : ∀ y ∈ xs, bigF y) :
    ∃ r, Ev (fun k => laws_szSchema.f k xs 1048576) r ∧ (r = -1 ∨ (0 ≤ r ∧ xs.length ≤ 1048576 ∧ ∀ y ∈ xs, okF (toFld y))) := by
  have e : Aside0 (wrap64 (1048576 - (xs.length : Int)) = 1048576 - (xs.length : Int)) := ⟨w64 (by omega) (by omega)⟩
  unfold laws_szSchema.f laws_szFieldDefS.f
  rw [e.out]
  by_cases c : 1048576 - (xs.length : Int) < 0
  · exact ⟨-1, Ev.bind (Ev.pos c (Ev.now _)) (Ev.pos (by decide) (Ev.now _)), .inl rfl⟩
  · obtain ⟨r, hr, hc⟩ := szF_loop xs (by omega) hx xs.length 0 (1048576 - (xs.length : Int)) (by omega) (by omega) (by omega)
    rw [n0] at hr
    rcases hc with rfl | ⟨h3, h4⟩
    · exact ⟨-1, Ev.bind (Ev.neg c hr) (Ev.pos (by decide) (Ev.now _)), .inl rfl⟩
    · refine ⟨r, Ev.bind (Ev.neg c hr) (Ev.neg (by omega) (Ev.now _)), .inr ⟨h3, by omega, fun y hy => ?_⟩⟩
      obtain ⟨j, hj, rfl⟩ := List.getElem_of_mem hy
      exact h4 j hj (by omega)
theorem toF_eq (l : List S50) (h : l.length ≤ 1048576) (hx : ∀ y ∈ l, okF (toFld y)) : Ev (fun k => laws_toSchema.f k l) (l.map toFld) := by
  unfold laws_toSchema.f laws_toFieldDefS.f
  refine Ev.bind (a := l.map toFld) (Ev.pos (by omega) (Ev.pos (by omega) ?_)) (Ev.now _)
  rw [Int.toNat_natCast]
  refine conv_all laws_toFieldDefS.l0 l toFld z39 (fun i hi ys r hl hr => ?_) (fun ys => ?_)
  · have hy := hx _ (List.getElem_mem hi)
    have h4 : l[i].f2.f4.length ≤ 1048576 := by
      have := hy.2.2.2.1
      unfold toFld at this
      simpa using this
    refine Ev.step (fun k => by rw [laws_toFieldDefS.l0, if_pos (by omega), if_pos (by omega), rd50 l i hi]) ?_
    refine Ev.bind (a := (l[i].f0, l[i].f1, l[i].f2.f0, l[i].f2.f1, l[i].f2.f2, l[i].f2.f3, l[i].f2.f4.map toSyn, l[i].f2.f5, l[i].f2.f6)) ?_ ?_
    · unfold laws_toFieldDef.f laws_toAnalyzer.f
      exact Ev.bind (Ev.bind (toS_eq _ hy.2.1) (Ev.bind (toY_eq _ h4) (Ev.now _))) (Ev.now _)
    · refine Ev.pos (by omega) ?_
      rw [wnS i (by omega), Int.toNat_natCast]
      exact hr
  · refine Ev.step (fun k => ?_) (Ev.now _)
    rw [laws_toFieldDefS.l0, if_neg (by omega)]
theorem eqF (l : List S39) (h : l.length ≤ 1048576) (hx : ∀ y ∈ l, okF y) : Ev (fun k => laws_eqSchema.f k l l) true := by
  unfold laws_eqSchema.f laws_eqFieldDefS.f
  refine Ev.bind (a := true) (Ev.pos rfl (same_all laws_eqFieldDefS.l0 l (fun i hi hr => ?_) ?_)) (Ev.pos rfl (Ev.now _))
  · have hy := hx _ (List.getElem_mem hi)
    refine Ev.step (fun k => by rw [laws_eqFieldDefS.l0, if_pos (by omega), if_pos (by omega), if_pos (by omega), rd39 l i hi, wnS i (by omega)]) ?_
    refine Ev.bind (a := true) ?_ (Ev.pos rfl hr)
    unfold laws_eqFieldDef.f laws_eqAnalyzer.f
    refine Ev.pos rfl (Ev.pos rfl (Ev.bind (a := true) ?_ (Ev.pos rfl (Ev.now _))))
    refine Ev.neg (by simp) (Ev.neg (by simp) (Ev.neg (by simp) ?_))
    exact Ev.bind (eqSE _ (by have := hy.2.1; omega)) (Ev.pos rfl (Ev.bind (eqY _ hy.2.2.2.1) (Ev.pos rfl (Ev.pos rfl (Ev.pos rfl (Ev.now _))))))
  · refine Ev.step (fun k => ?_) (Ev.now _)
    rw [laws_eqFieldDefS.l0, if_neg (by omega)]
theorem within_at (n : Int) : impl_within.f n 1 3 = some (decide (1 ≤ n ∧ n ≤ 3)) := by
  unfold impl_within.f
  by_cases c : n ≥ 1
  · rw [if_pos c]; congr 1; rw [Bool.eq_iff_iff]; simp; omega
  · rw [if_neg c, decide_eq_false (by omega)]
theorem zero_some (y : S39) : ∃ z, spec_l06Zero.f y.f2.f0 y.f2.f1 y.f2.f2 y.f2.f3 y.f2.f4 y.f2.f5 y.f2.f6 = some z ∧ impl_zeroAnalyzer.f y.f2.f0 y.f2.f1 y.f2.f2 y.f2.f3 y.f2.f4 y.f2.f5 y.f2.f6 = some z := by
  unfold spec_l06Zero.f impl_zeroAnalyzer.f
  (repeat' split) <;> exact ⟨_, rfl, rfl⟩
theorem rest_both (y : S39) (hy : okF y) (G : Nat → Bool → Option Bool) (H : Nat → Bool → Option Bool) (hG : ∃ r, Ev (fun k => G k false) r ∧ Ev (fun k => H k false) r) (hGt : Ev (fun k => G k true) false) (hHt : Ev (fun k => H k true) false) :
    ∃ r, Ev (fun k => if y.f1 < 1 then G k true else (if y.f1 > 3 then G k true else ((spec_AnalyzerOK.f k y.f2.f0 y.f2.f1 y.f2.f2 y.f2.f3 y.f2.f4 y.f2.f5 y.f2.f6).bind fun t160 => (if t160 = true then (if y.f1 = 1 then G k false else ((spec_l06Zero.f y.f2.f0 y.f2.f1 y.f2.f2 y.f2.f3 y.f2.f4 y.f2.f5 y.f2.f6).bind fun t161 => G k (!t161))) else G k true)))) r ∧
      Ev (fun k => (impl_within.f y.f1 1 3).bind fun t243 => (if t243 = true then ((impl_AnalyzerOK.f k y.f2.f0 y.f2.f1 y.f2.f2 y.f2.f3 y.f2.f4 y.f2.f5 y.f2.f6).bind fun t244 => (if t244 = true then (if y.f1 = 1 then H k false else ((impl_zeroAnalyzer.f y.f2.f0 y.f2.f1 y.f2.f2 y.f2.f3 y.f2.f4 y.f2.f5 y.f2.f6).bind fun t245 => H k (!t245))) else H k true)) else H k true)) r := by
  obtain ⟨r, g1, g2⟩ := hG
  rw [within_at]
  obtain ⟨ra, s1, s2⟩ := ok_both y.f2.f0 y.f2.f1 y.f2.f2 y.f2.f3 y.f2.f4 y.f2.f5 y.f2.f6 hy.2.1 hy.2.2.1 hy.2.2.2.1 hy.2.2.2.2
  obtain ⟨z, z1, z2⟩ := zero_some y
  by_cases c1 : y.f1 < 1
  · refine ⟨false, Ev.pos c1 hGt, Ev.bind (Ev.now _) (Ev.neg (by simp; omega) hHt)⟩
  · by_cases c2 : y.f1 > 3
    · refine ⟨false, Ev.neg c1 (Ev.pos c2 hGt), Ev.bind (Ev.now _) (Ev.neg (by simp; omega) hHt)⟩
    · have ok : decide (1 ≤ y.f1 ∧ y.f1 ≤ 3) = true := decide_eq_true (by omega)
      rw [ok]
      cases ra with
      | false => exact ⟨false, Ev.neg c1 (Ev.neg c2 (Ev.bind s1 (Ev.neg Bool.false_ne_true hGt))), Ev.bind (Ev.now _) (Ev.pos rfl (Ev.bind s2 (Ev.neg Bool.false_ne_true hHt)))⟩
      | true =>
        by_cases c3 : y.f1 = 1
        · exact ⟨r, Ev.neg c1 (Ev.neg c2 (Ev.bind s1 (Ev.pos rfl (Ev.pos c3 g1)))), Ev.bind (Ev.now _) (Ev.pos rfl (Ev.bind s2 (Ev.pos rfl (Ev.pos c3 g2))))⟩
        · cases z with
          | true => exact ⟨r, Ev.neg c1 (Ev.neg c2 (Ev.bind s1 (Ev.pos rfl (Ev.neg c3 (Ev.bind (Ev.ofEq z1) g1))))), Ev.bind (Ev.now _) (Ev.pos rfl (Ev.bind s2 (Ev.pos rfl (Ev.neg c3 (Ev.bind (Ev.ofEq z2) g2)))))⟩
          | false => exact ⟨false, Ev.neg c1 (Ev.neg c2 (Ev.bind s1 (Ev.pos rfl (Ev.neg c3 (Ev.bind (Ev.ofEq z1) hGt))))), Ev.bind (Ev.now _) (Ev.pos rfl (Ev.bind s2 (Ev.pos rfl (Ev.neg c3 (Ev.bind (Ev.ofEq z2) hHt)))))⟩
theorem schema_loop (l : List S39) (hl : l.length ≤ 1048576) (hx : ∀ y ∈ l, okF y) (d : Nat) : ∀ i : Nat, i + d = l.length →
    ∃ r, Ev (fun k => spec_SchemaOK.l0 k (i : Int) l) r ∧ Ev (fun k => impl_SchemaOK.l0 k l (l.length : Int) (i : Int) l) r := by
  induction d with
  | zero =>
    intro i hi
    exact ⟨true, Ev.step (fun k => by rw [spec_SchemaOK.l0, if_neg (by omega)]) (Ev.now _), Ev.step (fun k => by rw [impl_SchemaOK.l0, if_neg (by omega)]) (Ev.now _)⟩
  | succ d ih =>
    intro i hi
    have hlt : i < l.length := by omega
    have hy := hx _ (List.getElem_mem hlt)
    have sn := spec_name l[i].f0 hy.1
    have im := impl_name l[i].f0 hy.1
    have gt : Ev (fun k => spec_SchemaOK.j2 k (i : Int) true l) false := Ev.step (fun k => by rw [spec_SchemaOK.j2, if_pos rfl]) (Ev.now _)
    have ht : Ev (fun k => impl_SchemaOK.j2 k l (l.length : Int) (i : Int) true l) false := Ev.step (fun k => by rw [impl_SchemaOK.j2, if_pos rfl]) (Ev.now _)
    have go : ∃ r, Ev (fun k => spec_SchemaOK.j2 k (i : Int) false l) r ∧ Ev (fun k => impl_SchemaOK.j2 k l (l.length : Int) (i : Int) false l) r := by
      obtain ⟨r, h1, h2⟩ := ih (i + 1) (by omega)
      exact ⟨r, Ev.step (fun k => by rw [spec_SchemaOK.j2, if_neg Bool.false_ne_true, wnS i (by omega)]) h1, Ev.step (fun k => by rw [impl_SchemaOK.j2, if_neg Bool.false_ne_true, wnS i (by omega)]) h2⟩
    obtain ⟨r, s1, s2⟩ := rest_both l[i] hy (fun k b => spec_SchemaOK.j2 k (i : Int) b l) (fun k b => impl_SchemaOK.j2 k l (l.length : Int) (i : Int) b l) go gt ht
    cases hnm : nameB l[i].f0 with
    | false =>
      rw [hnm] at sn im
      refine ⟨false, Ev.step (fun k => by rw [spec_SchemaOK.l0, if_pos (by omega), if_pos (by omega), rd39 l i hlt]) ?_, Ev.step (fun k => by rw [impl_SchemaOK.l0, if_pos (by omega), if_pos (by omega), if_pos (by omega), rd39 l i hlt]) ?_⟩
      · exact Ev.bind sn (Ev.neg Bool.false_ne_true gt)
      · exact Ev.bind im (Ev.neg Bool.false_ne_true ht)
    | true =>
      rw [hnm] at sn im
      have sp : ∀ r, Ev (fun k => if (i : Int) > 0 then _ else _) r → Ev (fun k => spec_SchemaOK.l0 k (i : Int) l) r := fun r h =>
        Ev.step (fun k => by rw [spec_SchemaOK.l0, if_pos (by omega), if_pos (by omega), rd39 l i hlt]) (Ev.bind sn (Ev.pos rfl h))
      have ip : ∀ r, Ev (fun k => if (i : Int) > 0 then _ else _) r → Ev (fun k => impl_SchemaOK.l0 k l (l.length : Int) (i : Int) l) r := fun r h =>
        Ev.step (fun k => by rw [impl_SchemaOK.l0, if_pos (by omega), if_pos (by omega), if_pos (by omega), rd39 l i hlt]) (Ev.bind im (Ev.pos rfl h))
      by_cases c : (i : Int) > 0
      · by_cases cb : (Op.bytesLess ((rd_T39 l (wrap64 ((i : Int) - 1))).f0.toList) (l[i].f0.toList)) = true
        · have e : wrap64 ((i : Int) - 1) = (i : Int) - 1 := w64 (by omega) (by omega)
          refine ⟨r, sp r (Ev.pos c ?_), ip r (Ev.pos c ?_)⟩
          · refine Ev.pos (by rw [e]; omega) ?_
            refine Ev.pos (by rw [e]; omega) ?_
            exact Ev.pos cb s1
          · refine Ev.pos (by rw [e]; omega) ?_
            refine Ev.pos (by rw [e]; omega) ?_
            exact Ev.pos cb s2
        · have e : wrap64 ((i : Int) - 1) = (i : Int) - 1 := w64 (by omega) (by omega)
          refine ⟨false, sp false (Ev.pos c ?_), ip false (Ev.pos c ?_)⟩
          · refine Ev.pos (by rw [e]; omega) ?_
            refine Ev.pos (by rw [e]; omega) ?_
            exact Ev.neg cb gt
          · refine Ev.pos (by rw [e]; omega) ?_
            refine Ev.pos (by rw [e]; omega) ?_
            exact Ev.neg cb ht
      · exact ⟨r, sp r (Ev.neg c s1), ip r (Ev.neg c s2)⟩
theorem schema_both (l : List S39) (hl : l.length ≤ 1048576) (hx : ∀ y ∈ l, okF y) : ∃ r, Ev (fun k => spec_SchemaOK.f k l) r ∧ Ev (fun k => impl_SchemaOK.f k l) r := by
  unfold spec_SchemaOK.f impl_SchemaOK.f
  have gt : Ev (fun k => spec_SchemaOK.j0 k true l) false := Ev.step (fun k => by rw [spec_SchemaOK.j0, if_pos rfl]) (Ev.now _)
  have ht : Ev (fun k => impl_SchemaOK.j0 k true l) false := Ev.step (fun k => by rw [impl_SchemaOK.j0, if_pos rfl]) (Ev.now _)
  by_cases c1 : (l.length : Int) < 1
  · exact ⟨false, Ev.pos c1 gt, Ev.pos c1 ht⟩
  · by_cases c2 : (l.length : Int) > 16
    · rw [decide_eq_true c2]; exact ⟨false, Ev.neg c1 gt, Ev.neg c1 ht⟩
    · rw [decide_eq_false c2]
      obtain ⟨r, h1, h2⟩ := schema_loop l hl hx l.length 0 (by omega)
      rw [n0] at h1 h2
      exact ⟨r, Ev.neg c1 (Ev.step (fun k => by rw [spec_SchemaOK.j0, if_neg Bool.false_ne_true]) h1), Ev.neg c1 (Ev.step (fun k => by rw [impl_SchemaOK.j0, if_neg Bool.false_ne_true]) h2)⟩
theorem FnExactSchemaOK (l : List S50) (hw : WfFnExactSchemaOK.wfp0 l) : ∃ k, laws_FnExactSchemaOK.f k l = some true := by
  obtain ⟨w0, w1⟩ := hw
  unfold maxLen at w0
  have hx : ∀ y ∈ l, bigF y := fun y hy => by
    obtain ⟨a1, _, _, _, _, ⟨a2, a3⟩, ⟨a4, a5⟩, _, _⟩ := w1 y hy
    unfold maxLen at a1 a2 a3 a4
    exact ⟨a1, ⟨a2, a3⟩, a4, fun z hz => a5 z hz⟩
  refine Ev.rounds (g := fun k => laws_FnExactSchemaOK.f k l) ?_
  unfold laws_FnExactSchemaOK.f
  obtain ⟨r, hr, hc⟩ := szF_eq l w0 hx
  rcases hc with rfl | ⟨h3, h4, h5⟩
  · exact Ev.bind hr (Ev.pos (by decide) (Ev.now _))
  · have hto := toF_eq l h4 h5
    have hl : (l.map toFld).length ≤ 1048576 := by rw [List.length_map]; exact h4
    have hok : ∀ y ∈ l.map toFld, okF y := fun y hy => by
      obtain ⟨z, hz, rfl⟩ := List.mem_map.1 hy
      exact h5 z hz
    obtain ⟨q, s1, s2⟩ := schema_both (l.map toFld) hl hok
    have he := eqF (l.map toFld) hl hok
    refine Ev.bind hr (Ev.neg (by omega) (Ev.bind hto (Ev.bind s1 (Ev.bind hto (Ev.bind s2 (Ev.neg (by simp) (Ev.bind hto (Ev.bind he (Ev.pos rfl (Ev.now _))))))))))

end Go.Proofs.YtmbgncgcddjomaaDoor.Pure
