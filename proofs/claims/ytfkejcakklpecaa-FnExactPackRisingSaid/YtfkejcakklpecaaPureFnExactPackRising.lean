/- Whatever the list of numbers, the program's PackRising tells what the reference's PackRising tells, writes into no argument, and its answer's memory is its own: the law answers true. No condition. -/
import Derived.Test.YtfkejcakklpecaaXFnExactPackRisingx7
import Derived.Test.YtfkejcakklpecaaKit
import Derived.Lib.ItoaNum
set_option linter.unusedSimpArgs false
set_option linter.unusedVariables false
namespace Go.Proofs.Ytfkejcakklpecaa.Pure
open Go.RowKit Go.Proofs.Ytfkejcakklpecaa.XFnExactPackRising Go.Proofs.YtfkejcakklpecaaW.PrintWords Go.Proofs.YtfkejcakklpecaaW.PrintLast Go.Proofs.YtfkejcakklpecaaW.PrintMore Go.Proofs.Ytfkejcakklpecaa.Kit

theorem Ev.steps {α : Type} {g f : Nat → Option α} {r : α} (c : Nat) (h : ∀ k, g (k + c) = f k) (k : Ev f r) : Ev g r := by
  obtain ⟨K, hK⟩ := k
  refine ⟨K + c, fun n hn => ?_⟩
  have := h (n - c)
  rw [Nat.sub_add_cancel (by omega)] at this
  rw [this]; exact hK _ (by omega)

theorem q2 (a b : Nat) : (2 : Int) ^ (a + b) = 2 ^ a * 2 ^ b := Int.pow_add _ _ _
theorem q2pos (a : Nat) : (0 : Int) < 2 ^ a := Int.pow_pos (by decide)
theorem q2le (a b : Nat) (h : a ≤ b) : (2 : Int) ^ a ≤ 2 ^ b := by
  have h := Int.ofNat_le.2 (Nat.pow_le_pow_right (n := 2) (by decide) h)
  rw [Int.natCast_pow, Int.natCast_pow] at h
  exact h

def okNum (v : Int) : Prop := 0 ≤ v ∧ v ≤ 4611686018427387903
def bitOf (v : Int) (k : Nat) : Int := v / 2 ^ k % 2
theorem bitOf_01 (v : Int) (k : Nat) : 0 ≤ bitOf v k ∧ bitOf v k ≤ 1 := by unfold bitOf; omega

theorem and1 (x : Int) (h0 : 0 ≤ x) (h1 : x ≤ 9223372036854775807) : Go.bits .and .i64 x 1 = x % 2 :=
  bits_mask .i64 63 (by decide) (fun n => wrapk_i64 63 (by decide) n) 1 (by decide) x h0 (by
    have : (2 : Int) ^ 63 = 9223372036854775808 := rfl
    rw [this]; omega)

theorem shr_nat (x : Int) (j : Nat) (hj : j ≤ 64) : shr .i64 x (j : Int) = x / 2 ^ j := by
  unfold shr
  have e : min ((j : Int)).toNat IntKind.i64.bits = j := by
    have : IntKind.i64.bits = 64 := rfl
    omega
  rw [e]

theorem u64_nat (j : Nat) (hj : j ≤ 1000000) : IntKind.u64.wrap (j : Int) = (j : Int) := by simp [IntKind.wrap, IntKind.bits, IntKind.signed]; omega

theorem div_range (v : Int) (k : Nat) (h0 : 0 ≤ v) : 0 ≤ v / 2 ^ k ∧ v / 2 ^ k ≤ v := ⟨Int.ediv_nonneg h0 (Int.le_of_lt (q2pos k)), Int.ediv_le_self _ h0⟩

theorem and_bit (v : Int) (k : Nat) (hv : okNum v) (hk : k ≤ 62) : Go.bits .and .i64 (shr .i64 v (k : Int)) 1 = bitOf v k := by
  rw [shr_nat v k (by omega)]
  obtain ⟨d0, d1⟩ := div_range v k hv.1
  have h2 := hv.2
  unfold bitOf
  generalize v / (2 : Int) ^ k = z at *
  exact and1 z d0 (by omega)

theorem bit_eq (v : Int) (k : Nat) (hv : okNum v) (hk : k ≤ 62) : spec_l03Bit.f v (k : Int) = some (bitOf v k) := by
  unfold spec_l03Bit.f
  rw [u64_nat k (by omega), if_pos (by omega), and_bit v k hv hk]

/-- The bytes with one bit more. -/
def addBit (ys : List Int) (n : Nat) (b : Int) : List Int := ys.set (n / 8) (ys.getD (n / 8) 0 + b * 2 ^ (n % 8))
def addNum : Nat → List Int → Nat → Int → Nat → List Int
  | 0, ys, _, _, _ => ys
  | d + 1, ys, n, v, k => addNum d (addBit ys n (bitOf v k)) (n + 1) v (k + 1)
def addList (w : Nat) : List Int → List Int → Nat → List Int
  | [], ys, _ => ys
  | v :: l, ys, n => addList w l (addNum w ys n v 0) (n + w)
def wid (l : List Int) : Nat := l.foldl (fun w v => max w (Lib.bitLen v.toNat)) 0
def zeros (n : Nat) : List Int := List.replicate n 0
def blk (b : List Int) : List Int := addList (wid b) b (zeros ((b.length * wid b + 7) / 8)) 0
def packTail : Nat → List Int → List Int
  | 0, _ => []
  | d + 1, l => if l.length = 0 then [] else (wid (l.take 128) : Int) :: (blk (l.take 128) ++ packTail d (l.drop 128))

/-- Of byte m no more than the bits ahead of bit n are set. -/
def Inv (ys : List Int) (n : Nat) : Prop := ∀ m, m < ys.length → 0 ≤ ys.getD m 0 ∧ ys.getD m 0 < 2 ^ min 8 (n - 8 * m)

theorem addBit_length (ys : List Int) (n : Nat) (b : Int) : (addBit ys n b).length = ys.length := by simp [addBit]
theorem addNum_length (d : Nat) : ∀ (ys : List Int) (n : Nat) (v : Int) (k : Nat), (addNum d ys n v k).length = ys.length := by
  induction d with
  | zero => intro ys n v k; rfl
  | succ d ih => intro ys n v k; rw [addNum, ih, addBit_length]
theorem addList_length (w : Nat) (l : List Int) : ∀ (ys : List Int) (n : Nat), (addList w l ys n).length = ys.length := by
  induction l with
  | nil => intro ys n; rfl
  | cons v l ih => intro ys n; rw [addList, ih, addNum_length]

theorem Inv_zeros (n : Nat) : Inv (zeros n) 0 := by
  intro m hm
  have : (zeros n).getD m 0 = 0 := by
    unfold zeros at hm ⊢
    rw [List.getD_eq_getElem?_getD, List.getElem?_eq_getElem hm]; simp
  rw [this]
  exact ⟨Int.le_refl _, q2pos _⟩

theorem Inv_bit (ys : List Int) (n : Nat) (b : Int) (h : Inv ys n) (hn : n / 8 < ys.length) (hb0 : 0 ≤ b) (hb1 : b ≤ 1) : Inv (addBit ys n b) (n + 1) := by
  intro m hm
  rw [addBit_length] at hm
  by_cases c : m = n / 8
  · subst c
    obtain ⟨h0, h1⟩ := h _ hn
    have e1 : min 8 (n - 8 * (n / 8)) = n % 8 := by omega
    have e2 : min 8 (n + 1 - 8 * (n / 8)) = n % 8 + 1 := by omega
    rw [e1] at h1
    unfold addBit
    rw [Kit.getD_set_eq _ _ _ hn, e2, q2, Int.pow_one]
    have hp := q2pos (n % 8)
    have hb : 0 ≤ b * 2 ^ (n % 8) := Int.mul_nonneg hb0 (Int.le_of_lt hp)
    have hb' : b * 2 ^ (n % 8) ≤ 1 * 2 ^ (n % 8) := Int.mul_le_mul_of_nonneg_right hb1 (Int.le_of_lt hp)
    generalize ys.getD (n / 8) 0 = y at *
    generalize b * (2 : Int) ^ (n % 8) = z at *
    generalize (2 : Int) ^ (n % 8) = p at *
    omega
  · obtain ⟨h0, h1⟩ := h m hm
    unfold addBit
    rw [Kit.getD_set_ne _ _ _ _ (Ne.symm c)]
    exact ⟨h0, Int.lt_of_lt_of_le h1 (q2le _ _ (by omega))⟩

theorem Inv_num (v : Int) (d : Nat) : ∀ (ys : List Int) (n k : Nat), Inv ys n → n + d ≤ 8 * ys.length → Inv (addNum d ys n v k) (n + d) := by
  induction d with
  | zero => intro ys n k h _; exact h
  | succ d ih =>
    intro ys n k h hl
    obtain ⟨b0, b1⟩ := bitOf_01 v k
    rw [addNum, show n + (d + 1) = n + 1 + d by omega]
    exact ih _ _ _ (Inv_bit ys n _ h (by omega) b0 b1) (by rw [addBit_length]; omega)

/-- The byte that is set has room for its bit. -/
theorem Inv_room (ys : List Int) (n : Nat) (b : Int) (h : Inv ys n) (hn : n / 8 < ys.length) (hb0 : 0 ≤ b) (hb1 : b ≤ 1) :
    0 ≤ ys.getD (n / 8) 0 ∧ ys.getD (n / 8) 0 < 2 ^ (n % 8) ∧ 0 ≤ b * 2 ^ (n % 8) ∧ b * 2 ^ (n % 8) ≤ 128 ∧ ys.getD (n / 8) 0 + b * 2 ^ (n % 8) < 256 := by
  obtain ⟨h0, h1⟩ := h _ hn
  have e1 : min 8 (n - 8 * (n / 8)) = n % 8 := by omega
  rw [e1] at h1
  have hp := q2pos (n % 8)
  have hp7 : (2 : Int) ^ (n % 8) ≤ 128 := q2le (n % 8) 7 (by omega)
  have hb : 0 ≤ b * 2 ^ (n % 8) := Int.mul_nonneg hb0 (Int.le_of_lt hp)
  have hb' : b * 2 ^ (n % 8) ≤ 1 * 2 ^ (n % 8) := Int.mul_le_mul_of_nonneg_right hb1 (Int.le_of_lt hp)
  generalize ys.getD (n / 8) 0 = y at *
  generalize b * (2 : Int) ^ (n % 8) = z at *
  generalize (2 : Int) ^ (n % 8) = p at *
  omega

theorem shl_bit (b : Int) (j : Nat) (hj : j ≤ 7) (hb0 : 0 ≤ b * 2 ^ j) (hb1 : b * 2 ^ j ≤ 128) : shl .i64 b (j : Int) = b * 2 ^ j ∧ shl .u8 b (j : Int) = b * 2 ^ j := by
  unfold shl
  have e : min ((j : Int)).toNat IntKind.i64.bits = j := by
    have : IntKind.i64.bits = 64 := rfl
    omega
  have e' : min ((j : Int)).toNat IntKind.u8.bits = j := by
    have : IntKind.u8.bits = 8 := rfl
    omega
  rw [e, e', IntKind.wrap_i64, IntKind.wrap_u8]
  generalize b * (2 : Int) ^ j = z at *
  omega

theorem or_bit (y b : Int) (j : Nat) (hj : j ≤ 7) (hy0 : 0 ≤ y) (hy : y < 2 ^ j) (hb0 : 0 ≤ b) (hb1 : b ≤ 1) : Go.bits .or .u8 y (b * 2 ^ j) = y + b * 2 ^ j := by
  have hp := q2pos j
  have hp7 : (2 : Int) ^ j ≤ 128 := q2le j 7 hj
  have hz0 : 0 ≤ b * 2 ^ j := Int.mul_nonneg hb0 (Int.le_of_lt hp)
  have hz1 : b * 2 ^ j ≤ 1 * 2 ^ j := Int.mul_le_mul_of_nonneg_right hb1 (Int.le_of_lt hp)
  have hm : b * 2 ^ j % 2 ^ j = 0 := Int.mul_emod_left _ _
  have h8 : (2 : Int) ^ 8 = 256 := rfl
  have hz2 : b * 2 ^ j < 2 ^ 8 := by rw [h8]; generalize b * (2 : Int) ^ j = z at *; generalize (2 : Int) ^ j = p at *; omega
  have hy2 : y < 2 ^ 8 := by rw [h8]; generalize (2 : Int) ^ j = p at *; omega
  have hc : Go.bits .or .u8 y (b * 2 ^ j) = Go.bits .or .u8 (b * 2 ^ j) y := by
    obtain ⟨a, ha⟩ : ∃ a : Nat, y = (a : Int) := ⟨y.toNat, by omega⟩
    obtain ⟨c, hc⟩ : ∃ c : Nat, b * 2 ^ j = (c : Int) := ⟨(b * 2 ^ j).toNat, by omega⟩
    rw [hc, ha]
    rw [hc] at hz2; rw [ha] at hy2
    rw [h8] at hz2 hy2
    rw [(bits_nat .u8 8 (by decide) wraps_u8 a c (by omega) (by omega)).2, (bits_nat .u8 8 (by decide) wraps_u8 c a (by omega) (by omega)).2, Nat.or_comm]
  rw [hc, bits_join .u8 8 (by decide) wraps_u8 j _ _ hz0 hm hz2 hy0 hy hy2, Int.add_comm]

theorem put_spec_byte (ys : List Int) (n : Nat) (b : Int) (h : Inv ys n) (hn : n / 8 < ys.length) (hb0 : 0 ≤ b) (hb1 : b ≤ 1) :
    (ys.getD (n / 8) 0 + (shl .i64 b ((n % 8 : Nat) : Int)) % 256) % 256 = ys.getD (n / 8) 0 + b * 2 ^ (n % 8) := by
  obtain ⟨q0, q1, q2', q3, q4⟩ := Inv_room ys n b h hn hb0 hb1
  have hj : n % 8 ≤ 7 := by omega
  rw [(shl_bit b (n % 8) hj q2' q3).1]
  clear q1
  generalize b * (2 : Int) ^ (n % 8) = z at *
  generalize ys.getD (n / 8) 0 = y at *
  omega

theorem put_impl_byte (ys : List Int) (n : Nat) (b : Int) (h : Inv ys n) (hn : n / 8 < ys.length) (hb0 : 0 ≤ b) (hb1 : b ≤ 1) :
    Go.bits .or .u8 (ys.getD (n / 8) 0) (shl .u8 (b % 256) ((n % 8 : Nat) : Int)) = ys.getD (n / 8) 0 + b * 2 ^ (n % 8) := by
  have hj : n % 8 ≤ 7 := by omega
  have hb : b % 256 = b := by omega
  obtain ⟨q0, q1, q2', q3, q4⟩ := Inv_room ys n b h hn hb0 hb1
  rw [hb, (shl_bit b (n % 8) hj q2' q3).2]
  exact or_bit _ _ _ hj q0 q1 hb0 hb1

theorem n0 : ((0 : Nat) : Int) = 0 := rfl

theorem size_eq (n w : Nat) (hn : n ≤ 128) (hw : w ≤ 62) : wrap64 (Int.tdiv (wrap64 (wrap64 ((n : Int) * (w : Int)) + 7)) 8) = (((n * w + 7) / 8 : Nat) : Int) ∧ (n * w + 7) / 8 ≤ 992 ∧ n * w ≤ 8 * ((n * w + 7) / 8) := by
  have hmul : n * w ≤ 128 * 62 := Nat.mul_le_mul hn hw
  have e : ((n : Int) * (w : Int)) = ((n * w : Nat) : Int) := by rw [Int.natCast_mul]
  rw [e]
  generalize n * w = z at *
  refine ⟨?_, by omega, by omega⟩
  rw [w64 (x := (z : Int)) (by omega) (by omega), w64 (x := (z : Int) + 7) (by omega) (by omega), Int.tdiv_eq_ediv_of_nonneg (by omega), w64 (by omega) (by omega)]; omega

/-! ### The width -/
theorem bitLen_gt (v : Int) (hv : okNum v) (w : Nat) (hw : w ≤ 62) : (v / 2 ^ w > 0) ↔ w < Lib.bitLen v.toNat := by
  by_cases hz : v = 0
  · subst hz
    have : Lib.bitLen (0 : Int).toNat = 0 := by decide
    rw [this]; simp
  · have h1 := hv.1
    have h2 := hv.2
    have hv64 : v.toNat < 2 ^ 64 := by
      have : v.toNat < 18446744073709551616 := by omega
      exact this
    obtain ⟨b1, b2, b3⟩ := Lib.bitLenAux_bounds 64 v.toNat hv64 (by omega)
    have b1' : 1 ≤ Lib.bitLen v.toNat := b1
    have b2' : 2 ^ (Lib.bitLen v.toNat - 1) ≤ v.toNat := b2
    have b3' : v.toNat < 2 ^ Lib.bitLen v.toNat := b3
    have c2 : (2 : Int) ^ (Lib.bitLen v.toNat - 1) ≤ v := by
      have := Int.ofNat_le.2 b2'
      rw [Int.natCast_pow, Int.toNat_of_nonneg h1] at this; exact this
    have c3 : v < 2 ^ Lib.bitLen v.toNat := by
      have := Int.ofNat_lt.2 b3'
      rw [Int.natCast_pow, Int.toNat_of_nonneg h1] at this; exact this
    constructor
    · intro h
      rcases Nat.lt_or_ge w (Lib.bitLen v.toNat) with h' | h'
      · exact h'
      · have : v < 2 ^ w := Int.lt_of_lt_of_le c3 (q2le _ _ h')
        have := Int.ediv_eq_zero_of_lt h1 this
        omega
    · intro h
      have : (2 : Int) ^ w ≤ v := Int.le_trans (q2le _ _ (by omega)) c2
      have := (Int.le_ediv_iff_mul_le (q2pos w)).2 (show 1 * (2 : Int) ^ w ≤ v by rw [Int.one_mul]; exact this)
      omega

theorem bitLen_62 (v : Int) (hv : okNum v) : Lib.bitLen v.toNat ≤ 62 := Lib.bitLen_le v.toNat 62 (by decide) (by
  have h1 := hv.1
  have h2 := hv.2
  have : v.toNat < 4611686018427387904 := by omega
  exact this)

theorem width_l1 (x0 : List Int) (i : Nat) (hi : i + 1 ≤ 1000000) (v : Int) (hv : okNum v) (r : Int) (d : Nat) : ∀ (w : Nat), w ≤ 62 → w + d = max w (Lib.bitLen v.toNat) →
    Ev (fun k => spec_l03Width.l0 k x0 ((max w (Lib.bitLen v.toNat) : Nat) : Int) ((i + 1 : Nat) : Int)) r → Ev (fun k => spec_l03Width.l1 k x0 (w : Int) (i : Int) v) r := by
  have hb := bitLen_62 v hv
  have e1 : Aside0 (wrap64 ((i : Int) + 1) = ((i + 1 : Nat) : Int)) := ⟨by rw [w64 (by omega) (by omega)]; omega⟩
  induction d with
  | zero =>
    intro w hw hd h
    have hle : Lib.bitLen v.toNat ≤ w := by omega
    rw [Nat.max_eq_left hle] at h
    refine Ev.step (fun k => ?_) h
    have hn : ¬ (v / 2 ^ w > 0) := by rw [bitLen_gt v hv w hw]; omega
    rw [spec_l03Width.l1, u64_nat w (by omega), if_pos (by omega), shr_nat v w (by omega), if_neg hn, e1.out]
  | succ d ih =>
    intro w hw hd h
    have hlt : w < Lib.bitLen v.toNat := by omega
    have hp := (bitLen_gt v hv w hw).2 hlt
    have e2 : Aside0 (wrap64 ((w : Int) + 1) = ((w + 1 : Nat) : Int)) := ⟨by rw [w64 (by omega) (by omega)]; omega⟩
    refine Ev.step (fun k => ?_) (ih (w + 1) (by omega) (by omega) (by rw [show max (w + 1) (Lib.bitLen v.toNat) = max w (Lib.bitLen v.toNat) by omega]; exact h))
    rw [spec_l03Width.l1, u64_nat w (by omega), if_pos (by omega), shr_nat v w (by omega), if_pos hp, e2.out]

theorem width_l0 (x0 : List Int) (hx : x0.length ≤ 4096) (hn : ∀ v ∈ x0, okNum v) (d : Nat) : ∀ (i w : Nat), i + d = x0.length → w ≤ 62 →
    Ev (fun k => spec_l03Width.l0 k x0 (w : Int) (i : Int)) (((x0.drop i).foldl (fun w v => max w (Lib.bitLen v.toNat)) w : Nat) : Int) := by
  induction d with
  | zero =>
    intro i w hi hw
    rw [List.drop_of_length_le (by omega)]
    refine Ev.step (fun k => ?_) (Ev.now _)
    rw [spec_l03Width.l0, if_neg (by omega), List.foldl_nil]
  | succ d ih =>
    intro i w hi hw
    have hv := hn _ (rd_mem x0 i (by omega))
    have hb := bitLen_62 _ hv
    have ed : x0.drop i = rd x0 (i : Int) :: x0.drop (i + 1) := by rw [rd_lt x0 i (by omega)]; exact List.drop_eq_getElem_cons (by omega)
    rw [ed, List.foldl_cons]
    refine Ev.step (fun k => ?_) (width_l1 x0 i (by omega) _ hv _ (max w (Lib.bitLen (rd x0 (i : Int)).toNat) - w) w hw (by omega) (ih (i + 1) _ (by omega) (by omega)))
    rw [spec_l03Width.l0, if_pos (by omega), if_pos (by omega)]

theorem width_eq (x0 : List Int) (hx : x0.length ≤ 4096) (hn : ∀ v ∈ x0, okNum v) : Ev (fun k => spec_l03Width.f k x0) (wid x0 : Int) := by
  have := width_l0 x0 hx hn x0.length 0 0 (by omega) (by omega)
  rw [List.drop_zero] at this
  exact this

theorem foldl_62 (l : List Int) (hn : ∀ v ∈ l, okNum v) : ∀ w : Nat, w ≤ 62 → l.foldl (fun w v => max w (Lib.bitLen v.toNat)) w ≤ 62 := by
  induction l with
  | nil => intro w hw; exact hw
  | cons a l ih =>
    intro w hw
    have := bitLen_62 a (hn a (List.mem_cons_self))
    rw [List.foldl_cons]
    exact ih (fun v hv => hn v (List.mem_cons_of_mem _ hv)) (max w (Lib.bitLen a.toNat)) (by omega)
theorem wid_62 (l : List Int) (hn : ∀ v ∈ l, okNum v) : wid l ≤ 62 := foldl_62 l hn 0 (by omega)

/-! ### The reference's packing -/
theorem at_eq (i w kk n : Nat) (hi : i ≤ 128) (hw : w ≤ 62) (hk : kk ≤ 62) (hn : n = i * w + kk) : wrap64 (wrap64 ((i : Int) * (w : Int)) + (kk : Int)) = (n : Int) := by
  have hmul : i * w ≤ 128 * 62 := Nat.mul_le_mul hi hw
  have e : ((i : Int) * (w : Int)) = ((i * w : Nat) : Int) := by rw [Int.natCast_mul]
  rw [e]
  generalize i * w = z at *
  rw [w64 (x := (z : Int)) (by omega) (by omega), w64 (by omega) (by omega)]; omega

theorem div_eq (n : Nat) (hn : n ≤ 100000) : wrap64 (Int.tdiv (n : Int) 8) = ((n / 8 : Nat) : Int) ∧ Int.tmod (n : Int) 8 = ((n % 8 : Nat) : Int) := by
  rw [Int.tdiv_eq_ediv_of_nonneg (by omega), Int.tmod_eq_emod_of_nonneg (by omega), w64 (by omega) (by omega)]; omega

theorem spec_l2 (x0 x3 x5 : List Int) (x4 : Int) (w i : Nat) (hw : w ≤ 62) (hi : i < x5.length) (hx : x5.length ≤ 128) (hv : okNum (rd x5 (i : Int))) (r : List Int) (d : Nat) :
    ∀ (kk n : Nat) (ys : List Int), kk + d = w → Aside0 (n = i * w + kk) → n + d ≤ 8 * ys.length → ys.length ≤ 1000 → Inv ys n →
    Ev (fun k => spec_l03Pack.l1 k x0 x3 x4 x5 (w : Int) (addNum d ys n (rd x5 (i : Int)) kk) ((i + 1 : Nat) : Int)) r →
    Ev (fun k => spec_l03Pack.l2 k x0 x3 x4 x5 (w : Int) ys (i : Int) (kk : Int)) r := by
  have e1 : Aside0 (wrap64 ((i : Int) + 1) = ((i + 1 : Nat) : Int)) := ⟨by rw [w64 (by omega) (by omega)]; omega⟩
  induction d with
  | zero =>
    intro kk n ys hd hnn hs hl hinv h
    refine Ev.step (fun k => ?_) h
    rw [spec_l03Pack.l2, if_neg (by omega), e1.out, addNum]
  | succ d ih =>
    intro kk n ys hd hnn hs hl hinv h
    have hn8 : n / 8 < ys.length := by omega
    have hkw : (kk : Int) < (w : Int) := by omega
    have hil : (i : Int) < (x5.length : Int) := by omega
    have hk62 : kk ≤ 62 := by omega
    have ek : Aside0 (wrap64 ((kk : Int) + 1) = ((kk + 1 : Nat) : Int)) := ⟨by rw [w64 (by omega) (by omega)]; omega⟩
    have em := Aside0.mk (at_eq i w kk n (by omega) hw hk62 hnn.out)
    have hdv := Aside0.mk (div_eq n (by omega))
    have hnn' : Aside0 (n + 1 = i * w + (kk + 1)) := ⟨by rw [hnn.out, Nat.add_assoc]⟩
    obtain ⟨b0, b1⟩ := bitOf_01 (rd x5 (i : Int)) kk
    rw [addNum] at h
    have h' := ih (kk + 1) (n + 1) (addBit ys n (bitOf (rd x5 (i : Int)) kk)) (by omega) hnn' (by rw [addBit_length]; omega) (by rw [addBit_length]; exact hl) (Inv_bit ys _ _ hinv hn8 b0 b1) h
    have hput := Aside0.mk (put_spec_byte ys n _ hinv hn8 b0 b1)
    refine Ev.step (fun k => ?_) h'
    rw [spec_l03Pack.l2, if_pos hkw, em.out, hdv.out.1, hdv.out.2, if_pos (Int.natCast_nonneg _), if_pos (Int.ofNat_lt.2 hn8), if_pos (Int.natCast_nonneg _), if_pos hil, bit_eq _ kk hv hk62]
    simp only [Option.bind_some]
    rw [u64_nat (n % 8) (Nat.le_trans (Nat.le_of_lt (Nat.mod_lt _ (by decide))) (by decide)), if_pos (Int.natCast_nonneg _), rd_nat, ek.out, Int.toNat_natCast, hput.out, addBit]

theorem spec_l1 (x0 x3 x5 : List Int) (x4 : Nat) (w : Nat) (hw : w ≤ 62) (hx : x5.length ≤ 128) (hx4 : x4 ≤ 5000) (h3 : x3.length < 1000000) (hn : ∀ v ∈ x5, okNum v) (r : List Int) (d : Nat) :
    ∀ (i : Nat) (ys : List Int), i + d = x5.length → x5.length * w ≤ 8 * ys.length → ys.length ≤ 1000 → Inv ys (i * w) →
    Ev (fun k => spec_l03Pack.l0 k x0 (x3 ++ addList w (x5.drop i) ys (i * w)) ((x4 + 128 : Nat) : Int)) r →
    Ev (fun k => spec_l03Pack.l1 k x0 x3 (x4 : Int) x5 (w : Int) ys (i : Int)) r := by
  have e1 : Aside0 (wrap64 ((x4 : Int) + 128) = ((x4 + 128 : Nat) : Int)) := ⟨by rw [w64 (by omega) (by omega)]; omega⟩
  induction d with
  | zero =>
    intro i ys hd hs hl hinv h
    rw [List.drop_of_length_le (by omega)] at h
    refine Ev.step (fun k => ?_) h
    rw [spec_l03Pack.l1, if_neg (by omega), if_pos (by omega), e1.out, addList]
  | succ d ih =>
    intro i ys hd hs hl hinv h
    have ed : x5.drop i = rd x5 (i : Int) :: x5.drop (i + 1) := by rw [rd_lt x5 i (by omega)]; exact List.drop_eq_getElem_cons (by omega)
    have hiw : i * w + w ≤ x5.length * w := by
      have : (i + 1) * w ≤ x5.length * w := Nat.mul_le_mul_right w (by omega)
      rwa [Nat.add_mul, Nat.one_mul] at this
    have e2 : (i + 1) * w = i * w + w := by rw [Nat.add_mul, Nat.one_mul]
    have hI : Inv (addNum w ys (i * w) (rd x5 (i : Int)) 0) ((i + 1) * w) := by rw [e2]; exact Inv_num _ w ys _ 0 hinv (by omega)
    have h' := ih (i + 1) (addNum w ys (i * w) (rd x5 (i : Int)) 0) (by omega) (by rw [addNum_length]; exact hs) (by rw [addNum_length]; exact hl) hI (by rw [ed, addList] at h; rw [e2]; exact h)
    refine Ev.step (fun k => ?_) (by have h2 := spec_l2 x0 x3 x5 (x4 : Int) w i hw (by omega) hx (hn _ (rd_mem x5 i (by omega))) r w 0 (i * w) ys (by omega) ⟨rfl⟩ (by omega) hl hinv h'; rw [n0] at h2; exact h2)
    rw [spec_l03Pack.l1, if_pos (by omega)]

theorem mn_nat (a b : Nat) : mn (a : Int) (b : Int) = ((min a b : Nat) : Int) := by unfold mn; split <;> omega

theorem cut_eq (x0 : List Int) (at' : Nat) (h : at' ≤ x0.length) : (x0.take (min (at' + 128) x0.length)).drop at' = (x0.drop at').take 128 := by
  rw [List.drop_take]
  have : min (at' + 128) x0.length - at' = min 128 (x0.length - at') := by omega
  rw [this]
  by_cases c : 128 ≤ x0.length - at'
  · rw [Nat.min_eq_left c]
  · rw [Nat.min_eq_right (by omega), List.take_of_length_le (by simp), List.take_of_length_le (by simp; omega)]

theorem blk_length (b : List Int) : (blk b).length = (b.length * wid b + 7) / 8 := by unfold blk; rw [addList_length]; simp [zeros]

theorem spec_l0 (x0 : List Int) (hx : x0.length ≤ 4096) (hn : ∀ v ∈ x0, okNum v) (d : Nat) : ∀ (at' : Nat) (x3 : List Int), x0.length < at' + 128 * d → at' < x0.length + 128 → x3.length + 1000 * d < 900000 →
    Ev (fun k => spec_l03Pack.l0 k x0 x3 (at' : Int)) (x3 ++ packTail d (x0.drop at')) := by
  induction d with
  | zero =>
    intro at' x3 h1 h2 h3
    refine Ev.step (fun k => ?_) (Ev.now _)
    rw [spec_l03Pack.l0, if_neg (by omega)]; simp [packTail]
  | succ d ih =>
    intro at' x3 h1 h2 h3
    by_cases hlt : at' < x0.length
    · have hb : ∀ v ∈ (x0.drop at').take 128, okNum v := fun v hv => hn v (List.mem_of_mem_drop (List.mem_of_mem_take hv))
      have hlen : ((x0.drop at').take 128).length ≤ 128 := by simp; omega
      have hw := wid_62 _ hb
      have e1 : Aside0 (wrap64 ((at' : Int) + 128) = ((at' + 128 : Nat) : Int)) := ⟨by rw [w64 (by omega) (by omega)]; omega⟩
      have hne : ¬ ((x0.drop at').length = 0) := by simp; omega
      obtain ⟨em0, hs1, hs2⟩ := size_eq _ _ hlen hw
      have em := Aside0.mk em0
      clear em0
      have hbl := blk_length ((x0.drop at').take 128)
      have hcut := cut_eq x0 at' (by omega)
      have hwid := width_eq ((x0.drop at').take 128) (by omega) hb
      rw [packTail, if_neg hne, List.drop_drop]
      generalize hB : (x0.drop at').take 128 = B at *
      have hblk : blk B = addList (wid B) B (zeros ((B.length * wid B + 7) / 8)) 0 := rfl
      rw [hblk] at hbl ⊢
      generalize hW : wid B = W at *
      have hz : (zeros ((B.length * W + 7) / 8)).length = (B.length * W + 7) / 8 := by simp [zeros]
      have hrest := ih (at' + 128) (x3 ++ [(W : Int)] ++ addList W B (zeros ((B.length * W + 7) / 8)) 0) (by omega) (by omega) (by simp only [List.length_append, List.length_singleton]; omega)
      have eassoc : x3 ++ ((W : Int) :: (addList W B (zeros ((B.length * W + 7) / 8)) 0 ++ packTail d (x0.drop (at' + 128)))) = x3 ++ [(W : Int)] ++ addList W B (zeros ((B.length * W + 7) / 8)) 0 ++ packTail d (x0.drop (at' + 128)) := by simp
      rw [eassoc]
      have hl1 := spec_l1 x0 (x3 ++ [(W : Int)]) B at' W hw hlen (by omega) (by simp; omega) hb
        (x3 ++ [(W : Int)] ++ addList W B (zeros ((B.length * W + 7) / 8)) 0 ++ packTail d (x0.drop (at' + 128))) B.length 0
        (zeros ((B.length * W + 7) / 8)) (by omega) (by rw [hz]; exact hs2) (by rw [hz]; omega) (by rw [Nat.zero_mul]; exact Inv_zeros _) (by rw [Nat.zero_mul, List.drop_zero]; exact hrest)
      rw [n0] at hl1
      have ew : Aside0 ((W : Int) % 256 = (W : Int)) := ⟨Int.emod_eq_of_lt (by omega) (by omega)⟩
      have c1 : (at' : Int) < (x0.length : Int) := by omega
      have c2 : (at' : Int) ≤ ((min (at' + 128) x0.length : Nat) : Int) := by omega
      have c3 : ((min (at' + 128) x0.length : Nat) : Int) ≤ (x0.length : Int) := by omega
      have c4 : x3.length < 140737488355328 := by omega
      have c5 : (B.length * W + 7) / 8 ≤ 281474976710656 := by omega
      clear ih hrest hb hs1 hs2 hbl hz
      refine Ev.step (f := fun k => (spec_l03Width.f k B).bind fun t => if x3.length < 140737488355328 then (if 0 ≤ (wrap64 (Int.tdiv (wrap64 ((wrap64 ((B.length : Int) * t)) + 7)) 8)) then (if (wrap64 (Int.tdiv (wrap64 ((wrap64 ((B.length : Int) * t)) + 7)) 8) : Int).toNat ≤ 281474976710656 then (spec_l03Pack.l1 k x0 (x3 ++ [(t) % 256]) (at' : Int) B t (List.replicate (wrap64 (Int.tdiv (wrap64 ((wrap64 ((B.length : Int) * t)) + 7)) 8) : Int).toNat 0) 0) else none) else none) else none) (fun k => ?_) ?_
      · rw [spec_l03Pack.l0, if_pos c1, if_pos (Int.natCast_nonneg _), e1.out, mn_nat, if_pos c2, if_pos c3, Int.toNat_natCast, Int.toNat_natCast, hcut]
      · refine Ev.bind hwid ?_
        refine Ev.congr (fun k => ?_) hl1
        rw [em.out, ew.out, if_pos c4, if_pos (Int.natCast_nonneg _), Int.toNat_natCast, if_pos c5, zeros]
    · refine Ev.step (fun k => ?_) (Ev.now _)
      rw [spec_l03Pack.l0, if_neg (by omega), packTail, if_pos (by simp; omega)]; simp

/-- A packed list. -/
def packed (l : List Int) : List Int := vb 8 (l.length : Int) ++ packTail 33 l

theorem spec_Pack_eq (l : List Int) (hx : l.length ≤ 4096) (hn : ∀ v ∈ l, okNum v) : Ev (fun k => spec_l03Pack.f k l) (packed l) := by
  have hp : Ev (fun k => spec_l03Put.f k (l.length : Int)) (vb 8 (l.length : Int)) :=
    ⟨9, fun k hk => put_spec spec_l03Put.f (fun _ _ => rfl) 8 (by omega) k _ (by omega) (by rw [pow128_8]; omega) (by omega)⟩
  have hl := (vb_length 8 (l.length : Int)).2
  have h0 := spec_l0 l hx hn 33 0 (vb 8 (l.length : Int)) (by omega) (by omega) (by omega)
  rw [List.drop_zero, n0] at h0
  exact Ev.bind hp h0

/-! ### All are numbers -/
def okB (v : Int) : Bool := decide (0 ≤ v ∧ v ≤ 4611686018427387903)
theorem okB_iff (v : Int) : okB v = true ↔ okNum v := by simp [okB, okNum]
theorem num_eq (v : Int) : spec_l03Num.f v = some (okB v) := by
  unfold spec_l03Num.f okB
  split <;> (congr 1; simp; omega)
theorem within_num (v : Int) : impl_within.f v 0 4611686018427387903 = some (okB v) := by
  unfold impl_within.f okB
  split <;> (congr 1; simp; omega)

theorem allNums_from (x0 : List Int) (hx : x0.length ≤ 1000000) (d : Nat) : ∀ i : Nat, i + d = x0.length → Ev (fun k => spec_l03AllNums.l0 k x0 (i : Int)) ((x0.drop i).all okB) := by
  induction d with
  | zero =>
    intro i hi
    rw [List.drop_of_length_le (by omega)]
    refine Ev.step (fun k => ?_) (Ev.now _)
    rw [spec_l03AllNums.l0, if_neg (by omega)]; rfl
  | succ d ih =>
    intro i hi
    have e1 : Aside0 (wrap64 ((i : Int) + 1) = ((i + 1 : Nat) : Int)) := ⟨by rw [w64 (by omega) (by omega)]; omega⟩
    have ed : x0.drop i = rd x0 (i : Int) :: x0.drop (i + 1) := by rw [rd_lt x0 i (by omega)]; exact List.drop_eq_getElem_cons (by omega)
    rw [ed, List.all_cons]
    by_cases c : okB (rd x0 (i : Int)) = true
    · rw [c, Bool.true_and]
      refine Ev.step (fun k => ?_) (ih (i + 1) (by omega))
      rw [spec_l03AllNums.l0, if_pos (by omega), if_pos (by omega), num_eq]
      simp only [Option.bind_some]
      rw [if_pos c, e1.out]
    · have c' : okB (rd x0 (i : Int)) = false := by simpa using c
      rw [c', Bool.false_and]
      refine Ev.step (fun k => ?_) (Ev.now _)
      rw [spec_l03AllNums.l0, if_pos (by omega), if_pos (by omega), num_eq]
      simp only [Option.bind_some]
      rw [if_neg c]

theorem allNums_eq (x0 : List Int) (hx : x0.length ≤ 1000000) : Ev (fun k => spec_l03AllNums.f k x0) (x0.all okB) := by
  have := allNums_from x0 hx x0.length 0 (by omega)
  rw [List.drop_zero] at this
  exact this

theorem all_ok (l : List Int) (h : l.all okB = true) : ∀ v ∈ l, okNum v := fun v hv => (okB_iff v).1 (List.all_eq_true.1 h v hv)

/-- What both tell of a list. -/
def packTell (l : List Int) : List Int × Int := if (l.length : Int) > 4096 then ([], 2) else if l.all okB then (packed l, 0) else ([], 12)

/-! ### The program's packing -/
theorem rd_app (pre ys : List Int) (j : Nat) : rd (pre ++ ys) ((pre.length + j : Nat) : Int) = ys.getD j 0 := by
  rw [rd_nat, List.getD_eq_getElem?_getD, List.getD_eq_getElem?_getD, List.getElem?_append_right (by omega)]
  congr 2; omega
theorem set_app (pre ys : List Int) (j : Nat) (a : Int) : (pre ++ ys).set (pre.length + j) a = pre ++ ys.set j a := by
  rw [List.set_append_right _ _ (by omega)]; congr 2; omega

theorem base_eq (p n : Nat) (hp : p ≤ 2000000) (hn : n ≤ 100000) : wrap64 ((p : Int) + wrap64 (Int.tdiv (n : Int) 8)) = ((p + n / 8 : Nat) : Int) := by
  rw [Int.tdiv_eq_ediv_of_nonneg (by omega), w64 (x := (n : Int) / 8) (by omega) (by omega), w64 (by omega) (by omega)]; omega

theorem impl_l4 (x0 pre B : List Int) (x7 : Int) (w : Nat) (hw : w ≤ 62) (x75 x76 v : Int) (hv : okNum v) (hpre : pre.length ≤ 1000000) (r : List Int × Int) (d : Nat) :
    ∀ (kk n : Nat) (ys : List Int), kk + d = w → n + d ≤ 8 * ys.length → ys.length ≤ 1000 → Inv ys n →
    Ev (fun k => impl_PackInts.l3 k x0 (pre ++ addNum d ys n v kk) x7 (w : Int) (pre.length : Int) ((n + d : Nat) : Int) B x75 (wrap64 (x76 + 1))) r →
    Ev (fun k => impl_PackInts.l4 k x0 (pre ++ ys) x7 (w : Int) (pre.length : Int) (n : Int) v B x75 x76 (w : Int) (kk : Int)) r := by
  induction d with
  | zero =>
    intro kk n ys hd hs hl hinv h
    rw [Nat.add_zero, addNum] at h
    refine Ev.step (fun k => ?_) h
    rw [impl_PackInts.l4, if_neg (by omega)]
  | succ d ih =>
    intro kk n ys hd hs hl hinv h
    have hn8 : n / 8 < ys.length := by omega
    have hkw : (kk : Int) < (w : Int) := by omega
    have hk62 : kk ≤ 62 := by omega
    have hlen : ((pre.length + n / 8 : Nat) : Int) < ((pre ++ ys).length : Int) := by simp only [List.length_append]; omega
    have ed := Aside0.mk (base_eq pre.length n (by omega) (by omega))
    have ek : Aside0 (wrap64 ((kk : Int) + 1) = ((kk + 1 : Nat) : Int)) := ⟨by rw [w64 (by omega) (by omega)]; omega⟩
    have en : Aside0 (wrap64 ((n : Int) + 1) = ((n + 1 : Nat) : Int)) := ⟨by rw [w64 (by omega) (by omega)]; omega⟩
    have hdv := Aside0.mk (div_eq n (by omega))
    obtain ⟨b0, b1⟩ := bitOf_01 v kk
    have hput := Aside0.mk (put_impl_byte ys n _ hinv hn8 b0 b1)
    rw [addNum] at h
    have h' := ih (kk + 1) (n + 1) (addBit ys n (bitOf v kk)) (by omega) (by rw [addBit_length]; omega) (by rw [addBit_length]; exact hl) (Inv_bit ys _ _ hinv hn8 b0 b1)
      (by rw [show n + 1 + d = n + (d + 1) by omega]; exact h)
    refine Ev.step (fun k => ?_) h'
    rw [impl_PackInts.l4, if_pos hkw, ed.out, if_pos (Int.natCast_nonneg _), if_pos hlen, if_pos (Int.natCast_nonneg _), hdv.out.2, if_pos (Int.natCast_nonneg _), rd_app, and_bit v kk hv hk62,
      hput.out, Int.toNat_natCast, set_app, ek.out, en.out, addBit]

theorem impl_l3 (x0 pre B : List Int) (x7 : Nat) (hx7 : x7 ≤ 5000) (w : Nat) (hw : w ≤ 62) (hB : B.length ≤ 128) (hn : ∀ v ∈ B, okNum v) (hpre : pre.length ≤ 1000000) (r : List Int × Int) (d : Nat) :
    ∀ (i : Nat) (ys : List Int), i + d = B.length → B.length * w ≤ 8 * ys.length → ys.length ≤ 1000 → Inv ys (i * w) →
    Ev (fun k => impl_PackInts.l1 k x0 (pre ++ addList w (B.drop i) ys (i * w)) ((x7 + 128 : Nat) : Int)) r →
    Ev (fun k => impl_PackInts.l3 k x0 (pre ++ ys) (x7 : Int) (w : Int) (pre.length : Int) ((i * w : Nat) : Int) B (B.length : Int) (i : Int)) r := by
  have e1 : Aside0 (wrap64 ((x7 : Int) + 128) = ((x7 + 128 : Nat) : Int)) := ⟨by rw [w64 (by omega) (by omega)]; omega⟩
  induction d with
  | zero =>
    intro i ys hd hs hl hinv h
    rw [List.drop_of_length_le (by omega)] at h
    refine Ev.step (fun k => ?_) h
    rw [impl_PackInts.l3, if_neg (by omega), e1.out, addList]
  | succ d ih =>
    intro i ys hd hs hl hinv h
    have ed : B.drop i = rd B (i : Int) :: B.drop (i + 1) := by rw [rd_lt B i (by omega)]; exact List.drop_eq_getElem_cons (by omega)
    have hiw : i * w + w ≤ B.length * w := by
      have : (i + 1) * w ≤ B.length * w := Nat.mul_le_mul_right w (by omega)
      rwa [Nat.add_mul, Nat.one_mul] at this
    have e2 : (i + 1) * w = i * w + w := by rw [Nat.add_mul, Nat.one_mul]
    have e3 : Aside0 (wrap64 ((i : Int) + 1) = ((i + 1 : Nat) : Int)) := ⟨by rw [w64 (by omega) (by omega)]; omega⟩
    have hI : Inv (addNum w ys (i * w) (rd B (i : Int)) 0) ((i + 1) * w) := by rw [e2]; exact Inv_num _ w ys _ 0 hinv (by omega)
    have h' := ih (i + 1) (addNum w ys (i * w) (rd B (i : Int)) 0) (by omega) (by rw [addNum_length]; exact hs) (by rw [addNum_length]; exact hl) hI (by rw [ed, addList] at h; rw [e2]; exact h)
    rw [e2] at h'
    have h4 := impl_l4 x0 pre B (x7 : Int) w hw (B.length : Int) (i : Int) (rd B (i : Int)) (hn _ (rd_mem B i (by omega))) hpre r w 0 (i * w) ys (by omega) (by omega) hl hinv (by rw [e3.out]; exact h')
    rw [n0] at h4
    refine Ev.step (fun k => ?_) h4
    rw [impl_PackInts.l3, if_pos (by omega), if_pos (by omega), if_pos (by omega)]

theorem mx_nat (a b : Nat) : mx (a : Int) (b : Int) = ((max a b : Nat) : Int) := by unfold mx; split <;> omega

theorem len_of (v : Int) (hv : okNum v) : bits_Len.f (IntKind.u64.wrap v) = some ((Lib.bitLen v.toNat : Nat) : Int) := by
  have h1 := hv.1
  have h2 := hv.2
  have eu : IntKind.u64.wrap v = v := by simp [IntKind.wrap, IntKind.bits, IntKind.signed]; omega
  rw [eu]
  unfold bits_Len.f
  have h3 : v ≤ 18446744073709551615 := by omega
  rw [if_pos h1, if_pos h3]

theorem impl_l2 (x0 x6 B : List Int) (x7 : Nat) (hx7 : x7 ≤ 5000) (hB : B.length ≤ 128) (hn : ∀ v ∈ B, okNum v) (h6 : x6.length ≤ 900000) (r : List Int × Int) (d : Nat) :
    ∀ (i w : Nat), i + d = B.length → w ≤ 62 →
    (∀ W : Nat, W = (B.drop i).foldl (fun w v => max w (Lib.bitLen v.toNat)) w → Ev (fun k => impl_PackInts.l1 k x0 (x6 ++ [(W : Int)] ++ addList W B (zeros ((B.length * W + 7) / 8)) 0) ((x7 + 128 : Nat) : Int)) r) →
    Ev (fun k => impl_PackInts.l2 k x0 x6 (x7 : Int) B (w : Int) B (B.length : Int) (i : Int)) r := by
  induction d with
  | zero =>
    intro i w hi hw h
    have h1 := h w (by rw [List.drop_of_length_le (by omega), List.foldl_nil])
    obtain ⟨em0, hs1, hs2⟩ := size_eq _ _ hB hw
    rw [Int.mul_comm] at em0
    have em := Aside0.mk em0
    clear em0
    have ew : Aside0 ((w : Int) % 256 = (w : Int)) := ⟨Int.emod_eq_of_lt (by omega) (by omega)⟩
    have hz : (zeros ((B.length * w + 7) / 8)).length = (B.length * w + 7) / 8 := by simp [zeros]
    have h3 := impl_l3 x0 (x6 ++ [(w : Int)]) B x7 hx7 w hw hB hn (by simp; omega) r B.length 0 (zeros ((B.length * w + 7) / 8)) (by omega) (by rw [hz]; exact hs2) (by rw [hz]; omega) (by rw [Nat.zero_mul]; exact Inv_zeros _)
      (by rw [Nat.zero_mul, List.drop_zero]; exact h1)
    rw [Nat.zero_mul, n0] at h3
    have c1 : x6.length < 140737488355328 := by omega
    have c2 : (x6 ++ [(w : Int)]).length + (B.length * w + 7) / 8 < 140737488355328 := by simp only [List.length_append, List.length_singleton]; omega
    have c3 : ¬ ((i : Int) < (B.length : Int)) := by omega
    refine Ev.step (fun k => ?_) h3
    rw [impl_PackInts.l2, if_neg c3, if_pos c1, ew.out, Option.bind_some, em.out, if_pos (Int.natCast_nonneg _), Int.toNat_natCast, if_pos c2, zeros]
  | succ d ih =>
    intro i w hi hw h
    have hv := hn _ (rd_mem B i (by omega))
    have hb := bitLen_62 _ hv
    have ed : B.drop i = rd B (i : Int) :: B.drop (i + 1) := by rw [rd_lt B i (by omega)]; exact List.drop_eq_getElem_cons (by omega)
    have e3 : Aside0 (wrap64 ((i : Int) + 1) = ((i + 1 : Nat) : Int)) := ⟨by rw [w64 (by omega) (by omega)]; omega⟩
    have h' := ih (i + 1) (max w (Lib.bitLen (rd B (i : Int)).toNat)) (by omega) (by omega) (fun W hW => h W (by rw [ed, List.foldl_cons]; exact hW))
    have c1 : (i : Int) < (B.length : Int) := by omega
    refine Ev.step (fun k => ?_) h'
    rw [impl_PackInts.l2, if_pos c1, if_pos (Int.natCast_nonneg _), if_pos c1, len_of _ hv]
    simp only [Option.bind_some]
    rw [mx_nat, e3.out]

theorem impl_l1 (x0 : List Int) (hx : x0.length ≤ 4096) (hn : ∀ v ∈ x0, okNum v) (d : Nat) : ∀ (at' : Nat) (x6 : List Int), x0.length < at' + 128 * d → at' < x0.length + 128 → x6.length + 1000 * d < 900000 →
    Ev (fun k => impl_PackInts.l1 k x0 x6 (at' : Int)) (x6 ++ packTail d (x0.drop at'), 0) := by
  induction d with
  | zero =>
    intro at' x6 h1 h2 h3
    refine Ev.step (fun k => ?_) (Ev.now _)
    rw [impl_PackInts.l1, if_neg (by omega)]; simp [packTail]
  | succ d ih =>
    intro at' x6 h1 h2 h3
    by_cases hlt : at' < x0.length
    · have hb : ∀ v ∈ (x0.drop at').take 128, okNum v := fun v hv => hn v (List.mem_of_mem_drop (List.mem_of_mem_take hv))
      have hlen : ((x0.drop at').take 128).length ≤ 128 := by simp; omega
      have hw := wid_62 _ hb
      have e1 : Aside0 (wrap64 ((at' : Int) + 128) = ((at' + 128 : Nat) : Int)) := ⟨by rw [w64 (by omega) (by omega)]; omega⟩
      have hne : ¬ ((x0.drop at').length = 0) := by simp; omega
      obtain ⟨_, hs1, hs2⟩ := size_eq _ _ hlen hw
      have hbl := blk_length ((x0.drop at').take 128)
      have hcut := cut_eq x0 at' (by omega)
      rw [packTail, if_neg hne, List.drop_drop]
      generalize hB : (x0.drop at').take 128 = B at *
      have hrest := ih (at' + 128) (x6 ++ [(wid B : Int)] ++ blk B) (by omega) (by omega) (by simp only [List.length_append, List.length_singleton]; omega)
      have eassoc : x6 ++ ((wid B : Int) :: (blk B ++ packTail d (x0.drop (at' + 128)))) = x6 ++ [(wid B : Int)] ++ blk B ++ packTail d (x0.drop (at' + 128)) := by simp
      rw [eassoc]
      have h2 := impl_l2 x0 x6 B at' (by omega) hlen hb (by omega) (x6 ++ [(wid B : Int)] ++ blk B ++ packTail d (x0.drop (at' + 128)), 0) B.length 0 0 (by omega) (by omega) (fun W hW => by
        rw [List.drop_zero] at hW
        have hW' : W = wid B := hW
        subst hW'
        have hblk : blk B = addList (wid B) B (zeros ((B.length * wid B + 7) / 8)) 0 := rfl
        rw [← hblk]; exact hrest)
      rw [n0] at h2
      have c1 : (at' : Int) < (x0.length : Int) := by omega
      have c2 : (at' : Int) ≤ ((min (at' + 128) x0.length : Nat) : Int) := by omega
      have c3 : ((min (at' + 128) x0.length : Nat) : Int) ≤ (x0.length : Int) := by omega
      refine Ev.step (fun k => ?_) h2
      rw [impl_PackInts.l1, if_pos c1, if_pos (Int.natCast_nonneg _), e1.out, mn_nat, if_pos c2, if_pos c3, Int.toNat_natCast, Int.toNat_natCast, hcut]
    · refine Ev.step (fun k => ?_) (Ev.now _)
      rw [impl_PackInts.l1, if_neg (by omega), packTail, if_pos (by simp; omega)]; simp

theorem impl_Pack_l0 (l : List Int) (hx : l.length ≤ 4096) (d : Nat) : ∀ i : Nat, i + d = l.length → (∀ j, j < i → okB (l.getD j 0) = true) →
    Ev (fun k => impl_PackInts.l0 k l l (l.length : Int) (i : Int)) (if l.all okB then (packed l, 0) else ([], 12)) := by
  induction d with
  | zero =>
    intro i hi hj
    have hall : l.all okB = true := by
      rw [List.all_eq_true]
      intro x hx
      obtain ⟨j, hj', rfl⟩ := List.getElem_of_mem hx
      have := hj j (by omega)
      rwa [List.getD_eq_getElem?_getD, List.getElem?_eq_getElem hj'] at this
    rw [if_pos hall]
    have hp : Ev (fun k => impl_putInt.f k [] (l.length : Int)) (vb 8 (l.length : Int)) :=
      ⟨9, fun k hk => by
        have h := put_impl impl_putInt.l0 (fun _ _ _ => rfl) 8 (by omega) k [] (l.length : Int) (by simp) (by omega) (by rw [pow128_8]; omega) (by omega)
        rw [List.nil_append] at h
        exact h⟩
    have hl := (vb_length 8 (l.length : Int)).2
    have h0 := impl_l1 l hx (all_ok l hall) 33 0 (vb 8 (l.length : Int)) (by omega) (by omega) (by omega)
    rw [List.drop_zero, n0] at h0
    refine Ev.step (f := fun k => (impl_putInt.f k [] (l.length : Int)).bind fun t => impl_PackInts.l1 k l t 0) (fun k => ?_) (Ev.bind hp h0)
    rw [impl_PackInts.l0, if_neg (by omega)]
  | succ d ih =>
    intro i hi hj
    have e1 : Aside0 (wrap64 ((i : Int) + 1) = ((i + 1 : Nat) : Int)) := ⟨by rw [w64 (by omega) (by omega)]; omega⟩
    by_cases c : okB (l.getD i 0) = true
    · refine Ev.step (fun k => ?_) (ih (i + 1) (by omega) (fun j hj' => by
        by_cases cj : j = i
        · rw [cj]; exact c
        · exact hj j (by omega)))
      rw [impl_PackInts.l0, if_pos (by omega), if_pos (by omega), if_pos (by omega), rd_nat, within_num]
      simp only [Option.bind_some]
      rw [if_pos c, e1.out]
    · have hall : ¬ (l.all okB = true) := by
        intro h
        have := List.all_eq_true.1 h (rd l (i : Int)) (rd_mem l i (by omega))
        rw [rd_nat] at this; exact c this
      rw [if_neg hall]
      refine Ev.step (fun k => ?_) (Ev.now _)
      rw [impl_PackInts.l0, if_pos (by omega), if_pos (by omega), if_pos (by omega), rd_nat, within_num]
      simp only [Option.bind_some]
      rw [if_neg c]

theorem impl_PackInts_eq (l : List Int) : Ev (fun k => impl_PackInts.f k l) (packTell l) := by
  unfold packTell
  by_cases h : (l.length : Int) > 4096
  · rw [if_pos h]
    exact Ev.congr (fun k => by unfold impl_PackInts.f; rw [if_pos h]) (Ev.now _)
  · rw [if_neg h]
    have h0 := impl_Pack_l0 l (by omega) l.length 0 (by omega) (fun j hj => by omega)
    rw [n0] at h0
    exact Ev.congr (fun k => by unfold impl_PackInts.f; rw [if_neg h]) h0

theorem packTail_length (d : Nat) : ∀ l : List Int, (∀ v ∈ l, okNum v) → (packTail d l).length ≤ 1000 * d := by
  induction d with
  | zero => intro l _; simp [packTail]
  | succ d ih =>
    intro l hn
    unfold packTail
    split
    · simp
    · have hb : ∀ v ∈ l.take 128, okNum v := fun v hv => hn v (List.mem_of_mem_take hv)
      have hw := wid_62 _ hb
      have hlen : (l.take 128).length ≤ 128 := by simp; omega
      have hmul : (l.take 128).length * wid (l.take 128) ≤ 128 * 62 := Nat.mul_le_mul hlen hw
      have := ih (l.drop 128) (fun v hv => hn v (List.mem_of_mem_drop hv))
      have hbl := blk_length (l.take 128)
      simp only [List.length_cons, List.length_append]
      omega

theorem packTell_length (l : List Int) : (packTell l).1.length ≤ 40000 := by
  unfold packTell
  split
  · simp
  · split
    · rename_i h
      have h1 := (vb_length 8 (l.length : Int)).2
      have h2 := packTail_length 33 l (all_ok l h)
      simp only [packed, List.length_append]; omega
    · simp

def gapAt (l : List Int) (i : Nat) : Int := if i = 0 then l.getD 0 0 else l.getD i 0 - l.getD (i - 1) 0 - 1
def gapsTo (l : List Int) (n : Nat) : List Int := (List.range n).map (gapAt l)
def risFrom (l : List Int) : Nat → Nat → Bool
  | 0, _ => true
  | d + 1, i => decide (l.getD (i - 1) 0 < l.getD i 0) && risFrom l d (i + 1)

theorem gapsTo_succ (l : List Int) (n : Nat) : gapsTo l (n + 1) = gapsTo l n ++ [gapAt l n] := by simp [gapsTo, List.range_succ]
theorem gapsTo_length (l : List Int) (n : Nat) : (gapsTo l n).length = n := by simp [gapsTo]

theorem ok_at (l : List Int) (hn : ∀ v ∈ l, okNum v) (i : Nat) (hi : i < l.length) : 0 ≤ l.getD i 0 ∧ l.getD i 0 ≤ 4611686018427387903 := by
  have := hn _ (rd_mem l i hi)
  rw [rd_nat] at this
  exact this

theorem risFrom_all (l : List Int) (d : Nat) : ∀ i, risFrom l d i = true → ∀ j, i ≤ j → j < i + d → l.getD (j - 1) 0 < l.getD j 0 := by
  induction d with
  | zero => intro i _ j h1 h2; omega
  | succ d ih =>
    intro i h j h1 h2
    rw [risFrom, Bool.and_eq_true] at h
    by_cases c : j = i
    · rw [c]; exact of_decide_eq_true h.1
    · exact ih (i + 1) h.2 j (by omega) (by omega)

theorem gaps_ok (l : List Int) (hn : ∀ v ∈ l, okNum v) (hr : risFrom l (l.length - 1) 1 = true) : ∀ v ∈ gapsTo l l.length, okNum v := by
  intro v hv
  obtain ⟨i, hi, rfl⟩ := List.mem_map.1 hv
  rw [List.mem_range] at hi
  unfold gapAt okNum
  obtain ⟨a0, a1⟩ := ok_at l hn i hi
  by_cases c : i = 0
  · rw [if_pos c, ← c]; exact ⟨a0, a1⟩
  · rw [if_neg c]
    obtain ⟨b0, b1⟩ := ok_at l hn (i - 1) (by omega)
    have := risFrom_all l (l.length - 1) 1 hr i (by omega) (by omega)
    omega

theorem spec_ris (l : List Int) (hx : l.length ≤ 4096) (d : Nat) : ∀ i : Nat, 1 ≤ i → (i + d = l.length ∨ (d = 0 ∧ l.length ≤ i)) → Ev (fun k => spec_l03Rising.l0 k l (i : Int)) (risFrom l d i) := by
  induction d with
  | zero =>
    intro i h1 h2
    refine Ev.step (fun k => ?_) (Ev.now _)
    rw [spec_l03Rising.l0, if_neg (by omega)]; rfl
  | succ d ih =>
    intro i h1 h2
    by_cases hi1 : i ≤ 5000
    · have e1 : wrap64 ((i : Int) + 1) = ((i + 1 : Nat) : Int) := by rw [w64 (by omega) (by omega)]; omega
      have e2 : Aside0 (wrap64 ((i : Int) - 1) = ((i - 1 : Nat) : Int)) := ⟨by rw [w64 (by omega) (by omega)]; omega⟩
      by_cases c : l.getD (i - 1) 0 < l.getD i 0
      · rw [risFrom, decide_eq_true c, Bool.true_and]
        refine Ev.step (fun k => ?_) (ih (i + 1) (by omega) (by omega))
        rw [spec_l03Rising.l0, if_pos (by omega), if_pos (by omega), e2.out, if_pos (by omega), if_pos (by omega), rd_nat, rd_nat, if_neg (by omega), e1]
      · rw [risFrom, decide_eq_false c, Bool.false_and]
        refine Ev.step (fun k => ?_) (Ev.now _)
        rw [spec_l03Rising.l0, if_pos (by omega), if_pos (by omega), e2.out, if_pos (by omega), if_pos (by omega), rd_nat, rd_nat, if_pos (by omega)]
    · omega

theorem spec_gaps (l : List Int) (hx : l.length ≤ 4096) (hn : ∀ v ∈ l, okNum v) (d : Nat) : ∀ i : Nat, i + d = l.length → Ev (fun k => spec_l03Gaps.l0 k l (gapsTo l i) (i : Int)) (gapsTo l l.length) := by
  induction d with
  | zero =>
    intro i h
    obtain rfl : i = l.length := by omega
    refine Ev.step (fun k => ?_) (Ev.now _)
    rw [spec_l03Gaps.l0, if_neg (by omega)]
  | succ d ih =>
    intro i h
    have e1 : Aside0 (wrap64 ((i : Int) + 1) = ((i + 1 : Nat) : Int)) := ⟨by rw [w64 (by omega) (by omega)]; omega⟩
    obtain ⟨a0, a1⟩ := ok_at l hn i (by omega)
    have hl := gapsTo_length l i
    refine Ev.step (fun k => ?_) (ih (i + 1) (by omega))
    rw [gapsTo_succ]
    by_cases c : i = 0
    · subst c
      rw [spec_l03Gaps.l0, if_pos (by omega), if_pos n0, if_pos (by omega), if_pos (by omega), e1.out]
      have : rd l 0 = l.getD 0 0 := rd_nat l 0
      rw [this, gapAt, if_pos rfl]
    · obtain ⟨b0, b1⟩ := ok_at l hn (i - 1) (by omega)
      have e2 : Aside0 (wrap64 ((i : Int) - 1) = ((i - 1 : Nat) : Int)) := ⟨by rw [w64 (by omega) (by omega)]; omega⟩
      have e3 : wrap64 (wrap64 (l.getD i 0 - l.getD (i - 1) 0) - 1) = l.getD i 0 - l.getD (i - 1) 0 - 1 := by
        rw [w64 (x := l.getD i 0 - l.getD (i - 1) 0) (by omega) (by omega), w64 (by omega) (by omega)]
      rw [spec_l03Gaps.l0, if_pos (by omega), if_neg (by omega), if_pos (by omega), e2.out, if_pos (by omega), if_pos (by omega), if_pos (by omega), rd_nat, rd_nat, e1.out, e3]
      have : gapAt l i = l.getD i 0 - l.getD (i - 1) 0 - 1 := by unfold gapAt; rw [if_neg c]
      rw [this]

def risTell (l : List Int) : List Int × Int :=
  if (l.length : Int) > 4096 then ([], 2) else if l.all okB then (if risFrom l (l.length - 1) 1 then (packed (gapsTo l l.length), 0) else ([], 17)) else ([], 12)

theorem spec_PackRising_eq (l : List Int) : Ev (fun k => spec_PackRising.f k l) (risTell l) := by
  unfold risTell
  by_cases h : (l.length : Int) > 4096
  · rw [if_pos h]
    exact Ev.congr (fun k => by unfold spec_PackRising.f; rw [if_pos h]) (Ev.now _)
  · rw [if_neg h]
    refine Ev.congr (f := fun k => (spec_l03AllNums.f k l).bind fun t => if t = true then ((spec_l03Rising.f k l).bind fun t1 => if t1 = true then ((spec_l03Gaps.f k l).bind fun t2 => (spec_l03Pack.f k t2).bind fun t3 => some (t3, 0)) else some ([], 17)) else some ([], 12)) (fun k => by unfold spec_PackRising.f; rw [if_neg h]) ?_
    refine Ev.bind (allNums_eq l (by omega)) ?_
    by_cases c : l.all okB = true
    · rw [if_pos c]
      have hn := all_ok l c
      refine Ev.congr (f := fun k => (spec_l03Rising.f k l).bind fun t1 => if t1 = true then ((spec_l03Gaps.f k l).bind fun t2 => (spec_l03Pack.f k t2).bind fun t3 => some (t3, 0)) else some ([], 17)) (fun k => by rw [if_pos c]) ?_
      have hris : Ev (fun k => spec_l03Rising.f k l) (risFrom l (l.length - 1) 1) := spec_ris l (by omega) (l.length - 1) 1 (by omega) (by omega)
      refine Ev.bind hris ?_
      by_cases c2 : risFrom l (l.length - 1) 1 = true
      · rw [if_pos c2]
        refine Ev.congr (f := fun k => (spec_l03Gaps.f k l).bind fun t2 => (spec_l03Pack.f k t2).bind fun t3 => some (t3, 0)) (fun k => by rw [if_pos c2]) ?_
        have hg : Ev (fun k => spec_l03Gaps.f k l) (gapsTo l l.length) := spec_gaps l (by omega) hn l.length 0 (by omega)
        refine Ev.bind hg (Ev.bind (spec_Pack_eq _ (by rw [gapsTo_length]; omega) (gaps_ok l hn c2)) (Ev.now _))
      · rw [if_neg c2]
        exact Ev.congr (fun k => by rw [if_neg c2]) (Ev.now _)
    · rw [if_neg c]
      exact Ev.congr (fun k => by rw [if_neg c]) (Ev.now _)

theorem impl_ris_l1 (l : List Int) (hx : l.length ≤ 4096) (hn : ∀ v ∈ l, okNum v) (d : Nat) : ∀ i : Nat, 1 ≤ i → (i + d = l.length ∨ (d = 0 ∧ l.length = 0)) →
    Ev (fun k => impl_PackRising.l1 k l (gapsTo l (if l.length = 0 then 0 else i)) l (l.length : Int) (if l.length = 0 then 0 else (i : Int))) (if risFrom l d i then packTell (gapsTo l l.length) else ([], 17)) := by
  induction d with
  | zero =>
    intro i h1 h2
    have e : (if l.length = 0 then 0 else i) = l.length := by split <;> omega
    have e' : (if l.length = 0 then (0 : Int) else (i : Int)) = (l.length : Int) := by split <;> omega
    rw [e, e']
    have h : Ev (fun k => (impl_PackInts.f k (gapsTo l l.length)).bind fun b => some (b.1, b.2)) (packTell (gapsTo l l.length)) := Ev.bind (impl_PackInts_eq _) (Ev.now _)
    refine Ev.step (fun k => ?_) h
    rw [impl_PackRising.l1, if_neg (by omega)]
  | succ d ih =>
    intro i h1 h2
    have hne : ¬ (l.length = 0) := by omega
    have ih' := ih (i + 1) (by omega) (by omega)
    rw [if_neg hne, if_neg hne] at ih' ⊢
    have e1 : Aside0 (wrap64 ((i : Int) + 1) = ((i + 1 : Nat) : Int)) := ⟨by rw [w64 (by omega) (by omega)]; omega⟩
    have e2 : Aside0 (wrap64 ((i : Int) - 1) = ((i - 1 : Nat) : Int)) := ⟨by rw [w64 (by omega) (by omega)]; omega⟩
    obtain ⟨a0, a1⟩ := ok_at l hn i (by omega)
    obtain ⟨b0, b1⟩ := ok_at l hn (i - 1) (by omega)
    have hl := gapsTo_length l i
    by_cases c : l.getD (i - 1) 0 < l.getD i 0
    · rw [risFrom, decide_eq_true c, Bool.true_and]
      refine Ev.step (fun k => ?_) ih'
      have e3 : wrap64 (l.getD i 0 - wrap64 (l.getD (i - 1) 0 + 1)) = gapAt l i := by
        unfold gapAt
        rw [if_neg (by omega), w64 (x := l.getD (i - 1) 0 + 1) (by omega) (by omega), w64 (by omega) (by omega)]; omega
      rw [impl_PackRising.l1, if_pos (by omega), if_pos (by omega), if_pos (by omega), if_pos (by omega), e2.out, if_pos (by omega), if_pos (by omega), rd_nat, rd_nat, if_neg (by omega), if_pos (by omega), e1.out, e3, gapsTo_succ]
    · rw [risFrom, decide_eq_false c, Bool.false_and]
      refine Ev.step (fun k => ?_) (Ev.now _)
      rw [impl_PackRising.l1, if_pos (by omega), if_pos (by omega), if_pos (by omega), if_pos (by omega), e2.out, if_pos (by omega), if_pos (by omega), rd_nat, rd_nat, if_pos (by omega)]; rfl

theorem impl_ris_start (l : List Int) (hx : l.length ≤ 4096) (hn : ∀ v ∈ l, okNum v) : Ev (fun k => impl_PackRising.l1 k l [] l (l.length : Int) 0) (if risFrom l (l.length - 1) 1 then packTell (gapsTo l l.length) else ([], 17)) := by
  by_cases h0 : l.length = 0
  · have h := impl_ris_l1 l hx hn (l.length - 1) 1 (by omega) (by omega)
    rw [if_pos h0, if_pos h0] at h
    exact h
  · have h := impl_ris_l1 l hx hn (l.length - 1) 1 (by omega) (by omega)
    rw [if_neg h0, if_neg h0] at h
    refine Ev.step (fun k => ?_) h
    have e1 : Aside0 (wrap64 ((0 : Int) + 1) = ((1 : Nat) : Int)) := ⟨by rw [w64 (by omega) (by omega)]; rfl⟩
    rw [impl_PackRising.l1, if_pos (by omega), if_pos (by omega), if_pos (by omega), if_neg (by omega), if_pos (by simp), e1.out]
    have : rd l 0 = l.getD 0 0 := rd_nat l 0
    rw [this]; rfl

theorem impl_ris_l0 (l : List Int) (hx : l.length ≤ 4096) (d : Nat) : ∀ i : Nat, i + d = l.length → (∀ j, j < i → okB (l.getD j 0) = true) →
    Ev (fun k => impl_PackRising.l0 k l l (l.length : Int) (i : Int)) (if l.all okB then (if risFrom l (l.length - 1) 1 then packTell (gapsTo l l.length) else ([], 17)) else ([], 12)) := by
  induction d with
  | zero =>
    intro i hi hj
    have hall : l.all okB = true := by
      rw [List.all_eq_true]
      intro x hx
      obtain ⟨j, hj', rfl⟩ := List.getElem_of_mem hx
      have := hj j (by omega)
      rwa [List.getD_eq_getElem?_getD, List.getElem?_eq_getElem hj'] at this
    rw [if_pos hall]
    refine Ev.step (fun k => ?_) (impl_ris_start l hx (all_ok l hall))
    rw [impl_PackRising.l0, if_neg (by omega)]
  | succ d ih =>
    intro i hi hj
    have e1 : Aside0 (wrap64 ((i : Int) + 1) = ((i + 1 : Nat) : Int)) := ⟨by rw [w64 (by omega) (by omega)]; omega⟩
    by_cases c : okB (l.getD i 0) = true
    · refine Ev.step (fun k => ?_) (ih (i + 1) (by omega) (fun j hj' => by
        by_cases cj : j = i
        · rw [cj]; exact c
        · exact hj j (by omega)))
      rw [impl_PackRising.l0, if_pos (by omega), if_pos (by omega), if_pos (by omega), rd_nat, within_num]
      simp only [Option.bind_some]
      rw [if_pos c, e1.out]
    · have hall : ¬ (l.all okB = true) := by
        intro h
        have := List.all_eq_true.1 h (rd l (i : Int)) (rd_mem l i (by omega))
        rw [rd_nat] at this; exact c this
      rw [if_neg hall]
      refine Ev.step (fun k => ?_) (Ev.now _)
      rw [impl_PackRising.l0, if_pos (by omega), if_pos (by omega), if_pos (by omega), rd_nat, within_num]
      simp only [Option.bind_some]
      rw [if_neg c]

theorem impl_PackRising_eq (l : List Int) : Ev (fun k => impl_PackRising.f k l) (risTell l) := by
  unfold risTell
  by_cases h : (l.length : Int) > 4096
  · rw [if_pos h]
    exact Ev.congr (fun k => by unfold impl_PackRising.f; rw [if_pos h]) (Ev.now _)
  · rw [if_neg h]
    have h0 := impl_ris_l0 l (by omega) l.length 0 (by omega) (fun j hj => by omega)
    rw [n0] at h0
    have e : (if l.all okB then (if risFrom l (l.length - 1) 1 then packTell (gapsTo l l.length) else ([], 17)) else ([], 12) : List Int × Int) = (if l.all okB then (if risFrom l (l.length - 1) 1 then (packed (gapsTo l l.length), 0) else ([], 17)) else ([], 12)) := by
      by_cases c : l.all okB = true
      · rw [if_pos c, if_pos c]
        by_cases c2 : risFrom l (l.length - 1) 1 = true
        · rw [if_pos c2, if_pos c2]
          have hg := gaps_ok l (all_ok l c) c2
          unfold packTell
          rw [if_neg (by rw [gapsTo_length]; omega), if_pos (List.all_eq_true.2 (fun v hv => (okB_iff v).2 (hg v hv)))]
        · rw [if_neg c2, if_neg c2]
      · rw [if_neg c, if_neg c]
    rw [← e]
    exact Ev.congr (fun k => by unfold impl_PackRising.f; rw [if_neg h]) h0

theorem risTell_length (l : List Int) : (risTell l).1.length ≤ 40000 := by
  unfold risTell
  split
  · simp
  · split
    · rename_i h h2
      split
      · rename_i h3
        have h1 := (vb_length 8 ((gapsTo l l.length).length : Int)).2
        have h2 := packTail_length 33 _ (gaps_ok l (all_ok l h2) h3)
        simp only [packed, List.length_append]; omega
      · simp
    · simp

theorem toI (xs : List Int) (hn : xs.length ≤ 35184372088832) (k : Nat) (hk : xs.length < k) : laws_toIntS.f k xs = some xs := by
  unfold laws_toIntS.f
  rw [if_pos (by omega), if_pos (by omega), Int.toNat_natCast]
  exact toS_all laws_toIntS.l0 (fun _ _ _ _ => rfl) xs (by omega) k hk
theorem eqI (xs : List Int) (hn : xs.length ≤ 140737488351232) (k : Nat) (hk : xs.length < k) : laws_eqIntS.f k xs xs = some true := by
  unfold laws_eqIntS.f
  rw [if_pos rfl]
  exact eqS_all laws_eqIntS.l0 (fun _ _ _ _ => rfl) xs (by omega) k hk
theorem eqB (xs : List Int) (hn : xs.length ≤ 140737488351232) (k : Nat) (hk : xs.length < k) : laws_eqByteS.f k xs xs = some true := by
  unfold laws_eqByteS.f
  rw [if_pos rfl]
  exact eqS_all laws_eqByteS.l0 (fun _ _ _ _ => rfl) xs (by omega) k hk
theorem markI (xs : List Int) (hn : xs.length ≤ 140737488351232) : ∃ ys : List Int, ys.length = xs.length ∧ ∀ k, xs.length < k → laws_markIntS.f k xs 1 = some (((1 + xs.length : Nat) : Int), ys) := by
  obtain ⟨ys, h1, h2, h3⟩ := markS_from (fun x => x) laws_markIntS.l0 (fun _ _ _ _ => rfl) xs.length 1 (by omega) xs.length (xs.length + 1) 0 xs rfl (by omega) (fun j hj => by omega) (by omega)
  refine ⟨ys, h2, fun k hk => ?_⟩
  obtain ⟨ys', h1', h2', h3'⟩ := markS_from (fun x => x) laws_markIntS.l0 (fun _ _ _ _ => rfl) xs.length 1 (by omega) xs.length k 0 xs rfl (by omega) (fun j hj => by omega) hk
  have : ys' = ys := get_ext (h2'.trans h2.symm) (fun j hj => by rw [h3' j (by omega), h3 j (by omega)])
  subst this
  exact h1'
theorem marksB (xs : List Int) (hn : xs.length ≤ 140737488351232) : ∃ ys : List Int, ys.length = xs.length ∧ (∀ k, xs.length < k → laws_markByteS.f k xs 1 = some (((1 + xs.length : Nat) : Int), ys)) ∧ (∀ k, xs.length < k → laws_heldByteS.f k ys 1 = some ((1 + xs.length : Nat) : Int)) :=
  marks (fun x => x % 256) laws_markByteS.l0 laws_heldByteS.l0 (fun _ _ _ _ => rfl) (fun _ _ _ _ => rfl) xs 1 (by omega)

theorem FnExactPackRising : laws_FnExactPackRising.Pure := by
  intro l _ hn _
  by_cases h : (l.length : Int) > 1048576
  · refine ⟨0, ?_⟩
    unfold laws_FnExactPackRising.f
    rw [if_pos h]
  · obtain ⟨K1, h1⟩ := spec_PackRising_eq l
    obtain ⟨K2, h2⟩ := impl_PackRising_eq l
    have h1' : ∀ k, K1 ≤ k → spec_PackRising.f k l = some (risTell l) := h1
    have h2' : ∀ k, K2 ≤ k → impl_PackRising.f k l = some (risTell l) := h2
    clear h1 h2
    have hr := risTell_length l
    generalize risTell l = r at *
    obtain ⟨rs, e⟩ := r
    obtain ⟨zs, hz, hmi⟩ := markI l (by omega)
    obtain ⟨ys, hy, hm, hh⟩ := marksB rs (by simp only at hr; omega)
    simp only at hr
    refine ⟨K1 + K2 + l.length + 40010, ?_⟩
    unfold laws_FnExactPackRising.f
    rw [if_neg h, toI l (by omega) _ (by omega)]
    simp only [Option.bind_some]
    rw [h1' _ (by omega), h2' _ (by omega)]
    simp only [Option.bind_some]
    rw [eqB rs (by omega) _ (by omega)]
    simp only [Option.bind_some, if_true, bne_self_eq_false]
    rw [laws_FnExactPackRising.j0, if_neg Bool.false_ne_true, toI l (by omega) _ (by omega)]
    simp only [Option.bind_some]
    rw [eqI l (by omega) _ (by omega)]
    simp only [Option.bind_some, if_true]
    rw [hmi _ (by omega)]
    simp only [Option.bind_some]
    rw [if_neg (by omega), eqB rs (by omega) _ (by omega)]
    simp only [Option.bind_some, if_true]
    rw [laws_FnExactPackRising.j1, bne_self_eq_false, if_neg Bool.false_ne_true, hm _ (by omega)]
    simp only [Option.bind_some]
    rw [hh _ (by omega)]
    simp only [Option.bind_some]
    rw [if_neg (by omega), if_pos trivial, toI l (by omega) _ (by omega)]
    simp only [Option.bind_some]
    rw [h2' _ (by omega)]
    simp only [Option.bind_some]
    rw [eqB rs (by omega) _ (by omega)]
    simp only [Option.bind_some, if_true, bne_self_eq_false]
    rw [laws_FnExactPackRising.j2, if_neg Bool.false_ne_true, hh _ (by omega)]
    simp only [Option.bind_some]
    rw [if_neg (by omega), if_pos trivial]

end Go.Proofs.Ytfkejcakklpecaa.Pure
