/- Whatever the bytes, the program's ReadDoc tells what the reference's ReadDoc tells, writes into no byte, and hands out memory of its own: the law answers true. No condition. -/
import Derived.Test.YtnpdmleglcbobaaXFnExactReadDocx10
import Derived.Test.YtnpdmleglcbobaaKit
import Derived.Lib.ItoaNum
import Derived.Lib.Bytes
set_option linter.unusedSimpArgs false
set_option linter.unusedVariables false
namespace Go.Proofs.Ytnpdmleglcbobaa.Pure
open Go.RowKit Go.Proofs.Ytnpdmleglcbobaa.XFnExactReadDoc Go.Proofs.YtnpdmleglcbobaaW.PrintWords Go.Proofs.YtnpdmleglcbobaaW.PrintLast Go.Proofs.YtnpdmleglcbobaaW.PrintMore Go.Proofs.Ytnpdmleglcbobaa.Kit

theorem Ev.steps {α : Type} {g f : Nat → Option α} {r : α} (c : Nat) (h : ∀ k, g (k + c) = f k) (k : Ev f r) : Ev g r := by
  obtain ⟨K, hK⟩ := k
  refine ⟨K + c, fun n hn => ?_⟩
  have := h (n - c)
  rw [Nat.sub_add_cancel (by omega)] at this
  rw [this]; exact hK _ (by omega)

theorem Ev.pos {α : Type} {c : Prop} [Decidable c] {f g : Nat → Option α} {r : α} (h : c) (k : Ev f r) : Ev (fun n => if c then f n else g n) r := Ev.congr (fun n => if_pos h) k
theorem Ev.neg {α : Type} {c : Prop} [Decidable c] {f g : Nat → Option α} {r : α} (h : ¬ c) (k : Ev g r) : Ev (fun n => if c then f n else g n) r := Ev.congr (fun n => if_neg h) k
theorem Ev.ofEq {α : Type} {x : Option α} {r : α} (h : x = some r) : Ev (fun _ => x) r := ⟨0, fun _ _ => h⟩
theorem Ev.from {α : Type} {g : Nat → Option α} {r : α} (K : Nat) (h : ∀ k, K < k → g k = some r) : Ev g r := ⟨K + 1, fun k hk => h k (by omega)⟩

/-! ### Rows of texts: equal, marked, held -/
theorem wnS (i : Nat) (h : i ≤ 281474976710656) : wrap64 ((i : Int) + 1) = ((i + 1 : Nat) : Int) := by rw [w64 (by omega) (by omega)]; omega
theorem eqSE (xs : List ByteArray) (hn : xs.length ≤ 140737488351232) : Ev (fun k => laws_eqStringS.f k xs xs) true := by
  unfold laws_eqStringS.f
  refine Ev.pos rfl ?_
  have key : ∀ d i, i + d = xs.length → Ev (fun k => laws_eqStringS.l0 k xs xs (i : Int)) true := by
    intro d
    induction d with
    | zero => intro i hi; exact Ev.step (fun k => by rw [laws_eqStringS.l0, if_neg (by omega)]) (Ev.now _)
    | succ d ih =>
      intro i hi
      refine Ev.step (fun k => ?_) (ih (i + 1) (by omega))
      rw [laws_eqStringS.l0, if_pos (by omega), if_pos (by omega), if_pos (by omega), if_pos rfl, wnS i (by omega)]
  exact key xs.length 0 (by omega)
theorem markText_ex (n : Nat) : ∀ acc : ByteArray, acc.size + n ≤ 9223372036854775000 → ∃ t, Ev (fun k => laws_markText.l0 k (n : Int) acc) t := by
  induction n using Nat.strongRecOn with
  | _ n ih =>
    intro acc h
    by_cases c : n = 0
    · subst c
      refine ⟨(⟨#[109]⟩ : ByteArray) ++ acc, Ev.step (fun k => ?_) (Ev.now _)⟩
      rw [laws_markText.l0, if_neg (by omega), if_pos (by omega)]
    · have e0 : wrap64 (Int.tdiv (n : Int) 10) = ((n / 10 : Nat) : Int) := by rw [Int.tdiv_eq_ediv_of_nonneg (by omega), w64 (by omega) (by omega)]; omega
      generalize hy : (strOfNums ([(wrap64 (48 + (Int.tmod (n : Int) 10))) % 256] : List Int)) = y
      have hz : y.size = 1 := by rw [← hy]; simp [strOfNums, ByteArray.size]
      obtain ⟨t, ht⟩ := ih (n / 10) (by omega) (y ++ acc) (by rw [ByteArray.size_append]; omega)
      refine ⟨t, Ev.step (fun k => ?_) ht⟩
      rw [laws_markText.l0, if_pos (by omega), Option.bind_some, hy, if_pos (by omega), e0]
theorem markText_ev (n : Nat) (h : n ≤ 9223372036854775000) : ∃ t, Ev (fun k => laws_markText.f k (n : Int)) t := by
  unfold laws_markText.f
  by_cases c : (n : Int) ≤ 0
  · exact ⟨_, Ev.pos c (Ev.now _)⟩
  · obtain ⟨t, ht⟩ := markText_ex n (⟨#[]⟩ : ByteArray) (by show 0 + n ≤ _; omega)
    exact ⟨t, Ev.neg c ht⟩
theorem marksSE (xs : List ByteArray) (a : Nat) (hn : xs.length ≤ 140737488351232) (ha : a ≤ 140737488351232) : ∃ ys : List ByteArray, ys.length = xs.length ∧ Ev (fun k => laws_markStringS.f k xs (a : Int)) (((a + xs.length : Nat) : Int), ys) ∧ Ev (fun k => laws_heldStringS.f k ys (a : Int)) ((a + xs.length : Nat) : Int) := by
  have hc : ∀ i : Nat, ∃ t, i ≤ 9223372036854775000 → Ev (fun k => laws_markText.f k (i : Int)) t := by
    intro i
    by_cases h : i ≤ 9223372036854775000
    · obtain ⟨t, ht⟩ := markText_ev i h; exact ⟨t, fun _ => ht⟩
    · exact ⟨ByteArray.empty, fun h' => absurd h' h⟩
  obtain ⟨mt, hmt⟩ : ∃ mt : Nat → ByteArray, ∀ i : Nat, i ≤ 9223372036854775000 → Ev (fun k => laws_markText.f k (i : Int)) (mt i) := ⟨fun i => Classical.choose (hc i), fun i => Classical.choose_spec (hc i)⟩
  let full := (List.range xs.length).map (fun i => mt (a + i))
  have hfl : full.length = xs.length := by simp [full]
  have hmark : ∀ d i, i + d = xs.length → Ev (fun k => laws_markStringS.l0 k (full.take i ++ xs.drop i) ((a + i : Nat) : Int) (i : Int)) (((a + xs.length : Nat) : Int), full) := by
    intro d
    induction d with
    | zero =>
      intro i hi
      obtain rfl : i = xs.length := by omega
      refine Ev.step (fun k => ?_) (Ev.now _)
      rw [laws_markStringS.l0, if_neg (by simp; omega), List.drop_length, List.append_nil, List.take_of_length_le (by omega)]
    | succ d ih =>
      intro i hi
      have hi' : i < xs.length := by omega
      refine Ev.step (f := fun k => (laws_markText.f k ((a + i : Nat) : Int)).bind fun t => laws_markStringS.l0 k ((full.take i ++ xs.drop i).set i t) ((a + (i + 1) : Nat) : Int) ((i + 1 : Nat) : Int)) (fun k => ?_) (Ev.bind (hmt (a + i) (by omega)) ?_)
      · rw [laws_markStringS.l0, if_pos (by simp; omega), wnS (a + i) (by omega), wnS i (by omega)]
        congr 1
      · have e : (full.take i ++ xs.drop i).set i (mt (a + i)) = full.take (i + 1) ++ xs.drop (i + 1) := by
          rw [List.set_append_right i (mt (a + i)) (by simp; omega)]
          simp only [List.length_take]
          rw [Nat.min_eq_left (by omega), Nat.sub_self, List.drop_eq_getElem_cons hi', List.set_cons_zero, List.take_succ_eq_append_getElem (by omega), List.append_assoc]
          have : full[i]'(by omega) = mt (a + i) := by simp [full]
          rw [this]; rfl
        rw [e]; exact ih (i + 1) (by omega)
  have hheld : ∀ d i, i + d = xs.length → Ev (fun k => laws_heldStringS.l0 k full ((a + i : Nat) : Int) (i : Int)) ((a + xs.length : Nat) : Int) := by
    intro d
    induction d with
    | zero =>
      intro i hi
      obtain rfl : i = xs.length := by omega
      refine Ev.step (fun k => ?_) (Ev.now _)
      rw [laws_heldStringS.l0, if_neg (by omega)]
    | succ d ih =>
      intro i hi
      have hi' : i < full.length := by omega
      have hr : rdOf ByteArray.empty full (i : Int) = mt (a + i) := by
        rw [rdOf, Int.toNat_natCast, List.getD_eq_getElem?_getD, List.getElem?_eq_getElem hi']
        simp [full]
      refine Ev.step (f := fun k => (laws_markText.f k ((a + i : Nat) : Int)).bind fun t => if (rdOf ByteArray.empty full (i : Int)).toList = t.toList then laws_heldStringS.l0 k full ((a + (i + 1) : Nat) : Int) ((i + 1 : Nat) : Int) else some (-1)) (fun k => ?_) (Ev.bind (hmt (a + i) (by omega)) ?_)
      · rw [laws_heldStringS.l0, if_pos (by omega), if_pos (by omega), wnS (a + i) (by omega), wnS i (by omega)]; rfl
      · exact Ev.pos (by rw [hr]) (ih (i + 1) (by omega))
  refine ⟨full, hfl, ?_, hheld xs.length 0 (by omega)⟩
  have h := hmark xs.length 0 (by omega)
  rw [List.take_zero, List.nil_append, List.drop_zero] at h
  exact h

/-! ### Documents: places, equality -/
theorem wnD (i : Nat) (h : i ≤ 281474976710656) : wrap64 ((i : Int) + 1) = ((i + 1 : Nat) : Int) := by rw [w64 (by omega) (by omega)]; omega
theorem n0 : ((0 : Nat) : Int) = 0 := rfl
theorem rdS_at (xs : List ByteArray) (i : Nat) (h : i < xs.length) : rdOf ByteArray.empty xs (i : Int) = xs[i] := by
  rw [rdOf, Int.toNat_natCast, List.getD_eq_getElem?_getD, List.getElem?_eq_getElem h]; rfl
theorem rd66_at (xs : List S66) (i : Nat) (h : i < xs.length) : rd_T66 xs (i : Int) = xs[i] := by
  unfold rd_T66
  rw [Int.toNat_natCast, List.getD_eq_getElem?_getD, List.getElem?_eq_getElem h]; rfl
theorem drop_at {α : Type} (l : List α) (i : Nat) (h : i < l.length) : l.drop i = l[i] :: l.drop (i + 1) := List.drop_eq_getElem_cons h
def okV (v : S66) : Prop := v.f1.length ≤ 1048576 ∧ v.f2.length ≤ 1048576
theorem eqI_ev (xs : List Int) (hn : xs.length ≤ 1048576) : Ev (fun k => laws_eqIntS.f k xs xs) true := by
  unfold laws_eqIntS.f
  exact Ev.pos rfl (Ev.from xs.length (fun k hk => eqS_all laws_eqIntS.l0 (fun _ _ _ _ => rfl) xs (by omega) k hk))
theorem eqVS_ev (l : List S66) (hn : l.length ≤ 1048576) (h : ∀ v ∈ l, okV v) : Ev (fun k => laws_eqValueS.f k l l) true := by
  unfold laws_eqValueS.f
  refine Ev.pos rfl ?_
  have key : ∀ d i, i + d = l.length → Ev (fun k => laws_eqValueS.l0 k l l (i : Int)) true := by
    intro d
    induction d with
    | zero => intro i hi; exact Ev.step (fun k => by rw [laws_eqValueS.l0, if_neg (by omega)]) (Ev.now _)
    | succ d ih =>
      intro i hi
      have hi' : i < l.length := by omega
      have hv := h _ (List.getElem_mem hi')
      refine Ev.step (fun k => by rw [laws_eqValueS.l0, if_pos (by omega), if_pos (by omega), if_pos (by omega), rd66_at l i hi', wnD i (by omega)]) ?_
      refine Ev.bind (a := true) ?_ (Ev.pos rfl (ih (i + 1) (by omega)))
      unfold laws_eqValue.f
      exact Ev.pos rfl (Ev.bind (eqSE _ (by have := hv.1; omega)) (Ev.pos rfl (Ev.bind (eqI_ev _ hv.2) (Ev.pos rfl (Ev.now _)))))
  exact key l.length 0 (by omega)
theorem eqDoc_ev (id : ByteArray) (l : List S66) (hn : l.length ≤ 1048576) (h : ∀ v ∈ l, okV v) : Ev (fun k => laws_eqDoc.f k id l id l) true := by
  unfold laws_eqDoc.f
  exact Ev.pos rfl (Ev.bind (eqVS_ev l hn h) (Ev.pos rfl (Ev.now _)))
theorem eqB_ev (xs : List Int) (hn : xs.length ≤ 140737488351232) : Ev (fun k => laws_eqByteS.f k xs xs) true := by
  unfold laws_eqByteS.f
  exact Ev.pos rfl (Ev.from xs.length (fun k hk => eqS_all laws_eqByteS.l0 (fun _ _ _ _ => rfl) xs (by omega) k hk))

/-! ### Documents: marked and held -/
theorem marksIE (xs : List Int) (a : Nat) (h : a + xs.length ≤ 9223372036854775806) : ∃ ys : List Int, ys.length = xs.length ∧ Ev (fun k => laws_markIntS.f k xs (a : Int)) (((a + xs.length : Nat) : Int), ys) ∧ Ev (fun k => laws_heldIntS.f k ys (a : Int)) ((a + xs.length : Nat) : Int) := by
  obtain ⟨ys, h1, h2, h3⟩ := marks (fun x => x) laws_markIntS.l0 laws_heldIntS.l0 (fun _ _ _ _ => rfl) (fun _ _ _ _ => rfl) xs a h
  exact ⟨ys, h1, Ev.from xs.length h2, Ev.from xs.length h3⟩
theorem markVH (n : Nat) (hn : n ≤ 1048576) (d : Nat) : ∀ (i a : Nat) (ys : List S66), i + d = n → ys.length = n → (∀ v ∈ ys.drop i, okV v) → a + 2097153 * d ≤ 140737488000000 →
    ∃ (r : Nat) (zs : List S66), Ev (fun k => laws_markValueS.l0 k ys (a : Int) (i : Int)) ((r : Int), zs) ∧ zs.length = n ∧ (∀ j, j < i → zs[j]? = ys[j]?) ∧ Ev (fun k => laws_heldValueS.l0 k zs (a : Int) (i : Int)) (r : Int) := by
  induction d with
  | zero =>
    intro i a ys hi hl _ _
    exact ⟨a, ys, Ev.step (fun k => by rw [laws_markValueS.l0, if_neg (by omega)]) (Ev.now _), hl, fun _ _ => rfl, Ev.step (fun k => by rw [laws_heldValueS.l0, if_neg (by omega)]) (Ev.now _)⟩
  | succ d ih =>
    intro i a ys hi hl hv ha
    have hi' : i < ys.length := by omega
    have hv0 := hv ys[i] (by rw [drop_at _ i hi']; exact List.mem_cons_self ..)
    obtain ⟨t, ht⟩ := markText_ev a (by omega)
    obtain ⟨ss, hs1, hs2, hs3⟩ := marksSE ys[i].f1 (a + 1) (by have := hv0.1; omega) (by omega)
    obtain ⟨ns, hn1, hn2, hn3⟩ := marksIE ys[i].f2 (a + 1 + ys[i].f1.length) (by have := hv0.1; have := hv0.2; omega)
    obtain ⟨r, zs, hr, hzl, hzj, hz⟩ := ih (i + 1) (a + 1 + ys[i].f1.length + ys[i].f2.length) (ys.set i ⟨t, ss, ns⟩) (by omega) (by rw [List.length_set]; exact hl) (fun v hv' => hv v (by
      rw [List.drop_set, if_pos (by omega)] at hv'
      rw [drop_at _ i hi']
      exact List.mem_cons_of_mem _ hv')) (by have := hv0.1; have := hv0.2; omega)
    have hzi : zs[i]? = some ⟨t, ss, ns⟩ := by
      rw [hzj i (by omega), List.getElem?_set_self hi']
    have hzi' : i < zs.length := by omega
    have hze : zs[i] = ⟨t, ss, ns⟩ := by
      rw [List.getElem?_eq_getElem hzi'] at hzi
      exact Option.some.inj hzi
    refine ⟨r, zs, Ev.step (fun k => by rw [laws_markValueS.l0, if_pos (by omega), rd66_at ys i hi', wnD i (by omega), wnD a (by omega), Int.toNat_natCast]) ?_, hzl, fun j hj => ?_, ?_⟩
    · exact Ev.bind ht (Ev.pos (by omega) (Ev.bind hs2 (Ev.bind hn2 hr)))
    · rw [hzj j (by omega), List.getElem?_set_ne (by omega)]
    · refine Ev.step (fun k => by rw [laws_heldValueS.l0, if_pos (by omega), if_pos (by omega), rd66_at zs i hzi', hze, wnD i (by omega), wnD a (by omega)]) ?_
      exact Ev.bind ht (Ev.pos rfl (Ev.bind hs3 (Ev.neg (by omega) (Ev.bind hn3 (Ev.neg (by omega) hz)))))
theorem markDocH (id : ByteArray) (l : List S66) (hn : l.length ≤ 1048576) (h : ∀ v ∈ l, okV v) : ∃ (r : Nat) (zs : List S66), Ev (fun k => laws_markDoc.f k id l 1) ((r : Int), zs) ∧ Ev (fun k => laws_heldDoc.f k id zs 1) (r : Int) := by
  obtain ⟨r, zs, hr, _, _, hz⟩ := markVH l.length hn l.length 0 1 l (by omega) rfl (by rw [List.drop_zero]; exact h) (by omega)
  refine ⟨r, zs, ?_, ?_⟩
  · unfold laws_markDoc.f laws_markValueS.f
    exact Ev.bind hr (Ev.now _)
  · unfold laws_heldDoc.f laws_heldValueS.f
    exact Ev.bind hz (Ev.neg (by omega) (Ev.now _))
theorem toB_ev (xs : List Int) (hn : xs.length ≤ 140737488351232) : Ev (fun k => laws_toByteS.f k xs) xs := by
  unfold laws_toByteS.f
  refine Ev.pos (by omega) (Ev.pos (by omega) ?_)
  rw [Int.toNat_natCast]
  exact Ev.from xs.length (fun k hk => toS_all laws_toByteS.l0 (fun _ _ _ _ => rfl) xs (by omega) k hk)
theorem markB_ev (xs : List Int) (hn : xs.length ≤ 140737488351232) : ∃ ys : List Int, Ev (fun k => laws_markByteS.f k xs 1) (((1 + xs.length : Nat) : Int), ys) := by
  obtain ⟨ys, h1, h2, h3⟩ := markS_from (fun x => x % 256) laws_markByteS.l0 (fun _ _ _ _ => rfl) xs.length 1 (by omega) xs.length (xs.length + 1) 0 xs rfl (by omega) (fun j hj => by omega) (by omega)
  refine ⟨ys, Ev.from xs.length fun k hk => ?_⟩
  obtain ⟨ys', h1', h2', h3'⟩ := markS_from (fun x => x % 256) laws_markByteS.l0 (fun _ _ _ _ => rfl) xs.length 1 (by omega) xs.length k 0 xs rfl (by omega) (fun j hj => by omega) hk
  have : ys' = ys := get_ext (h2'.trans h2.symm) (fun j hj => by rw [h3' j (by omega), h3 j (by omega)])
  subst this
  exact h1'

/-- What the two tell alike: a number, the place behind it, and whether there is one. -/
def tell (r : Int × Int × Bool) : Int × Int × Int := if r.2.2 = true then (r.1, r.2.1, 0) else (0, 0, 3)

theorem pw (n : Nat) (h : n ≤ 8) : 0 < (128 : Int) ^ n ∧ (128 : Int) ^ n ≤ 72057594037927936 ∧ (2 : Int) ^ (7 * n) = 128 ^ n := by
  refine ⟨Int.pow_pos (by decide), ?_, ?_⟩
  · have h1 : (128 : Nat) ^ n ≤ 128 ^ 8 := Nat.pow_le_pow_right (by decide) h
    have e9 : (128 : Nat) ^ 8 = 72057594037927936 := by decide
    rw [e9] at h1
    have h2 := Int.ofNat_le.2 h1
    rw [Int.natCast_pow] at h2
    exact h2
  · rw [Int.pow_mul]; rfl

theorem shl_at (c : Int) (n : Nat) (hn : n ≤ 8) (h0 : 0 ≤ c) (h1 : c ≤ 127) : shl .i64 c (7 * (n : Int)) = c * 128 ^ n := by
  obtain ⟨hp0, hp1, hp2⟩ := pw n hn
  unfold shl
  have e : min (7 * (n : Int)).toNat IntKind.i64.bits = 7 * n := by
    have : IntKind.i64.bits = 64 := rfl
    omega
  rw [e, hp2]
  have hq : c * 128 ^ n ≤ 127 * 128 ^ n := Int.mul_le_mul_of_nonneg_right h1 (by omega)
  have hq0 : 0 ≤ c * 128 ^ n := Int.mul_nonneg h0 (by omega)
  rw [IntKind.wrap_i64]; omega

/-- One step of each of the two, up to its tests: p stands for 128 ^ n. -/
theorem stepS (b : List Int) (at' n : Nat) (v c p : Int) (hl : b.length ≤ 1048576) (hin : at' + n < b.length) (hn : n ≤ 8) (hc : rd b ((at' + n : Nat) : Int) = c) (hc0 : 0 ≤ c) (hc1 : c ≤ 255)
    (hp0 : 0 < p) (hp1 : p ≤ 72057594037927936) (hv0 : 0 ≤ v) (hv1 : v < p) (k : Nat) :
    spec_l03Get.l0 (k + 3) b at' v p n = if (if n = 8 then decide (c > 63) else false) = true then some (0, 0, false) else if c < 128 then (if (n : Int) = 0 then some (v + c % 128 * p, ((at' + n + 1 : Nat) : Int), true) else some (v + c % 128 * p, ((at' + n + 1 : Nat) : Int), decide (c > 0))) else (if (n : Int) < 8 then spec_l03Get.l0 k b at' (v + c % 128 * p) (wrap64 (p * 128)) ((n + 1 : Nat) : Int) else spec_l03Get.l0 k b at' (v + c % 128 * p) p ((n + 1 : Nat) : Int)) := by
  have hadd : wrap64 ((at' : Int) + (n : Int)) = ((at' + n : Nat) : Int) := by rw [w64 (by omega) (by omega)]; omega
  have hlt : decide (wrap64 ((at' : Int) + (n : Int)) < (b.length : Int)) = true := by rw [hadd]; exact decide_eq_true (by omega)
  have hnx : wrap64 (((at' + n : Nat) : Int) + 1) = ((at' + n + 1 : Nat) : Int) := by rw [w64 (by omega) (by omega)]; omega
  have hn1 : wrap64 ((n : Int) + 1) = ((n + 1 : Nat) : Int) := by rw [w64 (by omega) (by omega)]; omega
  have hc7 : c % 128 ≤ 127 := by omega
  have hq : c % 128 * p ≤ 127 * p := Int.mul_le_mul_of_nonneg_right hc7 (by omega)
  have hq0 : 0 ≤ c % 128 * p := Int.mul_nonneg (by omega) (by omega)
  have hsp : wrap64 (v + wrap64 ((Int.tmod c 128) * p)) = v + c % 128 * p := by
    rw [Int.tmod_eq_emod_of_nonneg hc0, w64 (x := c % 128 * p) (by omega) (by omega), w64 (by omega) (by omega)]
  rw [spec_l03Get.l0, if_pos (by omega), hlt, spec_l03Get.j1, if_pos rfl, hadd, if_pos (by omega), if_pos (by omega), hc, w64 (x := c) (by omega) (by omega)]
  by_cases h8 : n = 8
  · rw [if_pos (by omega), if_pos h8, spec_l03Get.j2, hadd, hsp, hnx, hn1]
  · rw [if_neg (by omega), if_neg h8, spec_l03Get.j2, hadd, hsp, hnx, hn1]

theorem stepI (b : List Int) (at' n : Nat) (v c p : Int) (hl : b.length ≤ 1048576) (hin : at' + n < b.length) (hn : n ≤ 8) (hc : rd b ((at' + n : Nat) : Int) = c) (hc0 : 0 ≤ c) (hc1 : c ≤ 255)
    (hp0 : 0 < p) (hp1 : p ≤ 72057594037927936) (hp2 : Aside0 ((2 : Int) ^ (7 * n) = p)) (hsh : Aside0 (shl .i64 (c % 128) (7 * (n : Int)) = c % 128 * p)) (hv0 : 0 ≤ v) (hv1 : v < p) (k : Nat) :
    impl_GetInt.l0 (k + 2) b at' v n = if c < 128 then (if v + c % 128 * p > 4611686018427387903 then some (0, 0, 3) else if v + c % 128 * p < 0 then some (0, 0, 3) else if c = 0 then (if (n : Int) > 0 then some (0, 0, 3) else some (v + c % 128 * p, ((at' + n + 1 : Nat) : Int), 0)) else some (v + c % 128 * p, ((at' + n + 1 : Nat) : Int), 0)) else impl_GetInt.l0 k b at' (v + c % 128 * p) ((n + 1 : Nat) : Int) := by
  have hadd : wrap64 ((at' : Int) + (n : Int)) = ((at' + n : Nat) : Int) := by rw [w64 (by omega) (by omega)]; omega
  have hlt : decide (wrap64 ((at' : Int) + (n : Int)) < (b.length : Int)) = true := by rw [hadd]; exact decide_eq_true (by omega)
  have hnx : wrap64 (((at' + n : Nat) : Int) + 1) = ((at' + n + 1 : Nat) : Int) := by rw [w64 (by omega) (by omega)]; omega
  have hn1 : wrap64 ((n : Int) + 1) = ((n + 1 : Nat) : Int) := by rw [w64 (by omega) (by omega)]; omega
  have hc7 : c % 128 ≤ 127 := by omega
  have hq : c % 128 * p ≤ 127 * p := Int.mul_le_mul_of_nonneg_right hc7 (by omega)
  have hq0 : 0 ≤ c % 128 * p := Int.mul_nonneg (by omega) (by omega)
  have hshift : (0 : Int) ≤ wrap64 (7 * (n : Int)) := by rw [w64 (by omega) (by omega)]; omega
  have hor : Go.bits .or .i64 v (shl .i64 (wrap64 (Go.bits .and .u8 c 127)) (wrap64 (7 * (n : Int)))) = v + c % 128 * p := by
    have b1 : v < 2 ^ 63 := by omega
    have b2 : c % 128 * p < 2 ^ 63 := by omega
    have b3 : 7 * n ≤ 62 := by omega
    have b4 : wrap64 (7 * (n : Int)) = 7 * (n : Int) := w64 (by omega) (by omega)
    have b5 : wrap64 (c % 128) = c % 128 := w64 (by omega) (by omega)
    have b6 : Go.bits .and .u8 c 127 = c % 128 := and127 _ hc0 (by omega)
    have hm : c % 128 * p % 2 ^ (7 * n) = 0 := by rw [hp2.out]; exact Int.mul_emod_left _ _
    have hv2 : v < 2 ^ (7 * n) := by rw [hp2.out]; exact hv1
    rw [b6, b5, b4, hsh.out, or_comm64 _ _ hv0 b1 hq0 b2, or_join (7 * n) b3 _ _ hq0 hm b2 hv0 hv2, Int.add_comm]
  rw [impl_GetInt.l0, if_pos (by omega), hlt, impl_GetInt.j1, if_pos rfl, hadd, if_pos (by omega), if_pos (by omega), if_pos hshift, hc, hor, hnx, hn1]

/-- What is known of a number that is read from a place. -/
def GotAt (b : List Int) (at' n : Nat) (r : Int × Int × Bool) : Prop :=
  r.2.2 = true → 0 ≤ r.1 ∧ r.1 ≤ 4611686018427387903 ∧ ∃ m : Nat, n ≤ m ∧ m ≤ 8 ∧ at' + m < b.length ∧ r.2.1 = ((at' + m + 1 : Nat) : Int) ∧ b.getD (at' + m) 0 < 128 ∧ ∀ j, n ≤ j → j < m → ¬ b.getD (at' + j) 0 < 128

theorem both (b : List Int) (at' : Nat) (hl : b.length ≤ 1048576) (hat : at' ≤ b.length) (hb : ∀ x ∈ b, 0 ≤ x ∧ x ≤ 255) (d : Nat) : ∀ (n : Nat) (v : Int), n + d = 9 → 0 ≤ v → v < 128 ^ n →
    ∃ r : Int × Int × Bool, GotAt b at' n r ∧ ∀ k, 3 * d + 3 ≤ k → spec_l03Get.l0 k b at' v (128 ^ (min n 8)) n = some r ∧ impl_GetInt.l0 k b at' v n = some (tell r) := by
  induction d with
  | zero =>
    intro n v hn h0 h1
    refine ⟨(0, 0, false), (fun h => by cases h), fun k hk => ?_⟩
    obtain ⟨k, rfl⟩ : ∃ m, k = m + 2 := ⟨k - 2, by omega⟩
    constructor
    · rw [spec_l03Get.l0, if_neg (by omega), spec_l03Get.j1, if_neg (by decide)]
    · rw [impl_GetInt.l0, if_neg (by omega), impl_GetInt.j1, if_neg (by decide)]; rfl
  | succ d ih =>
    intro n v hn h0 h1
    have en : min n 8 = n := by omega
    rw [en]
    by_cases hin : at' + n < b.length
    · have hr := hb _ (rd_mem b (at' + n) hin)
      obtain ⟨hp0, hp1, hp2⟩ := pw n (by omega)
      obtain ⟨c, hc⟩ : ∃ c, rd b ((at' + n : Nat) : Int) = c := ⟨_, rfl⟩
      have hcD : b.getD (at' + n) 0 = c := by rw [← hc, rd_nat]
      rw [hc] at hr
      have hSt := stepS b at' n v c (128 ^ n) hl hin (by omega) hc hr.1 hr.2 hp0 hp1 h0 h1
      have hIt := stepI b at' n v c (128 ^ n) hl hin (by omega) hc hr.1 hr.2 hp0 hp1 ⟨hp2⟩ ⟨shl_at (c % 128) n (by omega) (by omega) (by omega)⟩ h0 h1
      have hc7 : c % 128 ≤ 127 := by omega
      have hq : c % 128 * 128 ^ n ≤ 127 * 128 ^ n := Int.mul_le_mul_of_nonneg_right hc7 (by omega)
      have hq0 : 0 ≤ c % 128 * 128 ^ n := Int.mul_nonneg (by omega) (by omega)
      have hnp : ((128 : Int) ^ n) * 128 = 128 ^ (n + 1) := (Int.pow_succ _ _).symm
      by_cases h8 : n = 8
      · have e8 : (128 : Int) ^ n = 72057594037927936 := by rw [h8]; rfl
        rw [e8] at hSt hIt h1 hq hq0 ⊢
        by_cases h63 : c > 63
        · refine ⟨(0, 0, false), (fun h => by cases h), fun k hk => ?_⟩
          obtain ⟨k, rfl⟩ : ∃ m, k = m + 4 := ⟨k - 4, by omega⟩
          constructor
          · rw [hSt (k + 1), if_pos h8, if_pos (decide_eq_true h63)]
          · rw [hIt (k + 2)]
            by_cases hc1 : c < 128
            · rw [if_pos hc1, if_pos (by omega)]; rfl
            · rw [if_neg hc1, impl_GetInt.l0, if_neg (by omega), impl_GetInt.j1, if_neg (by decide)]; rfl
        · have hd : ¬ (decide (c > 63) = true) := by simpa using h63
          refine ⟨(v + c % 128 * 72057594037927936, ((at' + n + 1 : Nat) : Int), decide (c > 0)), ?_, fun k hk => ?_⟩
          · intro _
            exact ⟨by simp only; omega, by simp only; omega, n, Nat.le_refl _, by omega, hin, rfl, by rw [hcD]; omega, fun j hj hj' => by omega⟩
          obtain ⟨k, rfl⟩ : ∃ m, k = m + 4 := ⟨k - 4, by omega⟩
          constructor
          · rw [hSt (k + 1), if_pos h8, if_neg hd, if_pos (by omega), if_neg (by omega)]
          · rw [hIt (k + 2), if_pos (by omega), if_neg (by omega), if_neg (by omega)]
            by_cases hc0 : c = 0
            · subst hc0; rw [if_pos rfl, if_pos (by omega)]; rfl
            · have hp : decide (c > 0) = true := decide_eq_true (by omega)
              rw [if_neg hc0]; simp [tell, hp]
      · obtain ⟨hq3, hq4, _⟩ := pw (n + 1) (by omega)
        generalize hpp : (128 : Int) ^ n = p at *
        by_cases hc1 : c < 128
        · refine ⟨(v + c % 128 * p, ((at' + n + 1 : Nat) : Int), decide (n = 0 ∨ c > 0)), ?_, fun k hk => ?_⟩
          · intro _
            exact ⟨by simp only; omega, by simp only; omega, n, Nat.le_refl _, by omega, hin, rfl, by rw [hcD]; omega, fun j hj hj' => by omega⟩
          obtain ⟨k, rfl⟩ : ∃ m, k = m + 4 := ⟨k - 4, by omega⟩
          constructor
          · rw [hSt (k + 1), if_neg h8, if_neg (by decide), if_pos hc1]
            by_cases hz : n = 0
            · rw [if_pos (by omega)]; simp [hz]
            · rw [if_neg (by omega)]; simp [hz]
          · rw [hIt (k + 2), if_pos hc1, if_neg (by omega), if_neg (by omega)]
            by_cases hc0 : c = 0
            · rw [if_pos hc0]
              by_cases hz : n = 0
              · rw [if_neg (by omega)]; simp [tell, hz]
              · rw [if_pos (by omega)]; simp [tell, hz, hc0]
            · have : c > 0 := by omega
              rw [if_neg hc0]; simp [tell, this]
        · obtain ⟨r, hG, hr'⟩ := ih (n + 1) (v + c % 128 * p) (by omega) (by omega) (by rw [← hnp]; omega)
          refine ⟨r, ?_, fun k hk => ?_⟩
          · intro h
            obtain ⟨g1, g2, m, g3, g4, g5, g6, g7, g8⟩ := hG h
            refine ⟨g1, g2, m, by omega, g4, g5, g6, g7, fun j hj hj' => ?_⟩
            by_cases e : j = n
            · rw [e, hcD]; exact hc1
            · exact g8 j (by omega) hj'
          obtain ⟨k, rfl⟩ : ∃ m, k = m + 3 := ⟨k - 3, by omega⟩
          constructor
          · rw [hSt k, if_neg h8, if_neg (by decide), if_neg hc1, if_pos (by omega), w64 (x := p * 128) (by omega) (by omega), hnp]
            have e2 : min (n + 1) 8 = n + 1 := by omega
            have := (hr' k (by omega)).1
            rwa [e2] at this
          · rw [hIt (k + 1), if_neg hc1]
            exact (hr' (k + 1) (by omega)).2
    · have hlt : decide (wrap64 ((at' : Int) + (n : Int)) < (b.length : Int)) = false := by rw [w64 (by omega) (by omega)]; exact decide_eq_false (by omega)
      refine ⟨(0, 0, false), (fun h => by cases h), fun k hk => ?_⟩
      obtain ⟨k, rfl⟩ : ∃ m, k = m + 2 := ⟨k - 2, by omega⟩
      constructor
      · rw [spec_l03Get.l0, if_pos (by omega), hlt, spec_l03Get.j1, if_neg (by decide)]
      · rw [impl_GetInt.l0, if_pos (by omega), hlt, impl_GetInt.j1, if_neg (by decide)]; rfl

/-- A number read at a place: what the two make of it. -/
theorem get_at (b : List Int) (n : Nat) (hl : b.length ≤ 1048576) (hn : n ≤ b.length) (hb : ∀ x ∈ b, 0 ≤ x ∧ x ≤ 255) :
    ∃ r : Int × Int × Bool, GotAt b n 0 r ∧ Ev (fun k => spec_l03Get.f k b (n : Int)) r ∧ Ev (fun k => impl_GetInt.f k b (n : Int)) (tell r) := by
  obtain ⟨r, hG, hr⟩ := both b n hl hn hb 9 0 0 (by omega) (by omega) (by decide)
  refine ⟨r, hG, ⟨30, fun k hk => (hr k hk).1⟩, ⟨30, fun k hk => ?_⟩⟩
  show impl_GetInt.f k b (n : Int) = some (tell r)
  unfold impl_GetInt.f impl_within.f
  rw [if_neg (by omega), if_pos (by omega), decide_eq_true (by omega)]
  simp only [Option.bind_some, if_true]
  exact (hr k hk).2

/-! ### Reading a document: what both readers tell -/
def Told (b : List Int) (n : Nat) (o : Option (Int × Nat)) : Prop := match o with
  | none => (∃ x y : Int, Ev (fun k => spec_l03Get.f k b (n : Int)) (x, y, false)) ∧ Ev (fun k => impl_GetInt.f k b (n : Int)) (0, 0, 3)
  | some (v, m) => 0 ≤ v ∧ v ≤ 4611686018427387903 ∧ n < m ∧ m ≤ b.length ∧ Ev (fun k => spec_l03Get.f k b (n : Int)) (v, (m : Int), true) ∧ Ev (fun k => impl_GetInt.f k b (n : Int)) (v, (m : Int), 0)
theorem told_ex (b : List Int) (hl : b.length ≤ 1048576) (hb : ∀ x ∈ b, 0 ≤ x ∧ x ≤ 255) : ∃ num : Nat → Option (Int × Nat), ∀ n, n ≤ b.length → Told b n (num n) := by
  have h : ∀ n, ∃ o, n ≤ b.length → Told b n o := by
    intro n
    by_cases hn : n ≤ b.length
    · obtain ⟨⟨v, x, ok⟩, hG, hs, hi⟩ := get_at b n hl hn hb
      cases ok with
      | false => exact ⟨none, fun _ => ⟨⟨v, x, hs⟩, hi⟩⟩
      | true =>
        obtain ⟨h0, h1, m, _, _, hm, hx, _⟩ := hG rfl
        simp only at h0 h1 hx
        subst hx
        exact ⟨some (v, n + m + 1), fun _ => ⟨h0, h1, by omega, by omega, hs, hi⟩⟩
    · exact ⟨none, fun h => absurd h hn⟩
  exact ⟨fun n => Classical.choose (h n), fun n hn => Classical.choose_spec (h n) hn⟩
def numOf (v : Int) : Int := if Int.tmod v 2 = 1 then wrap64 (Int.tdiv (wrap64 (-(wrap64 (v + 1)))) 2) else wrap64 (Int.tdiv v 2)
section
variable (b : List Int) (num : Nat → Option (Int × Nat))
def rtext (n : Nat) : Option (ByteArray × Nat) := match num n with
  | none => none
  | some (v, m) => if v > 65536 ∨ (m : Int) + v > (b.length : Int) then none else some (strOfNums ((b.take (m + v.toNat)).drop m), m + v.toNat)
def rcount (n : Nat) : Option (Nat × Nat) := match num n with
  | none => none
  | some (v, m) => if v > 4096 then none else some (v.toNat, m)
def rnumber (n : Nat) : Option (Int × Nat) := match num n with
  | none => none
  | some (v, m) => if v > 2000000000000 then none else some (numOf v, m)
def rtexts : Nat → Nat → List ByteArray → Option (List ByteArray × Nat)
  | 0, n, acc => some (acc, n)
  | c + 1, n, acc => (rtext b num n).bind fun p => rtexts c p.2 (acc ++ [p.1])
def rnums : Nat → Nat → List Int → Option (List Int × Nat)
  | 0, n, acc => some (acc, n)
  | c + 1, n, acc => (rnumber num n).bind fun p => rnums c p.2 (acc ++ [p.1])
def rval (n : Nat) : Option (S66 × Nat) :=
  (rtext b num n).bind fun p => (rcount num p.2).bind fun q => (rtexts b num q.1 q.2 []).bind fun t => (rcount num t.2).bind fun q2 => (rnums num q2.1 q2.2 []).bind fun u => some (⟨p.1, t.1, u.1⟩, u.2)
def rvals : Nat → Nat → List S66 → Option (List S66 × Nat)
  | 0, n, acc => some (acc, n)
  | c + 1, n, acc => (rval b num n).bind fun p => rvals c p.2 (acc ++ [p.1])
def rdoc : Option (ByteArray × List S66 × Nat) :=
  (rtext b num 0).bind fun p => (rcount num p.2).bind fun q => (rvals b num q.1 q.2 []).bind fun t => some (p.1, t.1, t.2)
def Good (o : Option (ByteArray × List S66 × Nat)) (r : ByteArray × List S66 × Int × Bool) : Prop := match o with
  | some (i, vs, m) => r = (i, vs, (m : Int), false)
  | none => r.2.2.2 = true
variable {b num} (hl : b.length ≤ 1048576) (hnum : ∀ n, n ≤ b.length → Told b n (num n))
/-! places and lengths -/
include hnum in
theorem rtext_le {n m : Nat} {t : ByteArray} (hn : n ≤ b.length) (h : rtext b num n = some (t, m)) : m ≤ b.length := by
  have ht := hnum n hn
  unfold rtext at h
  cases hv : num n with
  | none => rw [hv] at h; cases h
  | some p =>
    obtain ⟨v, m1⟩ := p
    rw [hv] at h ht
    obtain ⟨h0, h1, h2, h3, _, _⟩ := ht
    simp only at h
    by_cases c : v > 65536 ∨ (m1 : Int) + v > (b.length : Int)
    · rw [if_pos c] at h; cases h
    · rw [if_neg c] at h
      simp only [Option.some.injEq, Prod.mk.injEq] at h
      omega
include hnum in
theorem rcount_le {n m c : Nat} (hn : n ≤ b.length) (h : rcount num n = some (c, m)) : m ≤ b.length ∧ c ≤ 4096 := by
  have ht := hnum n hn
  unfold rcount at h
  cases hv : num n with
  | none => rw [hv] at h; cases h
  | some p =>
    obtain ⟨v, m1⟩ := p
    rw [hv] at h ht
    obtain ⟨h0, h1, h2, h3, _, _⟩ := ht
    simp only at h
    by_cases c : v > 4096
    · rw [if_pos c] at h; cases h
    · rw [if_neg c] at h
      simp only [Option.some.injEq, Prod.mk.injEq] at h
      omega
include hnum in
theorem rnumber_le {n m : Nat} {c : Int} (hn : n ≤ b.length) (h : rnumber num n = some (c, m)) : m ≤ b.length := by
  have ht := hnum n hn
  unfold rnumber at h
  cases hv : num n with
  | none => rw [hv] at h; cases h
  | some p =>
    obtain ⟨v, m1⟩ := p
    rw [hv] at h ht
    obtain ⟨h0, h1, h2, h3, _, _⟩ := ht
    simp only at h
    by_cases c : v > 2000000000000
    · rw [if_pos c] at h; cases h
    · rw [if_neg c] at h
      simp only [Option.some.injEq, Prod.mk.injEq] at h
      omega
include hnum in
theorem rtexts_le (c : Nat) : ∀ (n : Nat) (acc : List ByteArray) (ts : List ByteArray) (m : Nat), n ≤ b.length → rtexts b num c n acc = some (ts, m) → m ≤ b.length ∧ ts.length = acc.length + c := by
  induction c with
  | zero => intro n acc ts m hn h; simp only [rtexts, Option.some.injEq, Prod.mk.injEq] at h; obtain ⟨rfl, rfl⟩ := h; exact ⟨hn, rfl⟩
  | succ c ih =>
    intro n acc ts m hn h
    rw [rtexts] at h
    obtain ⟨⟨t, m1⟩, h1, h2⟩ := Option.bind_eq_some_iff.1 h
    have := ih m1 _ ts m (rtext_le hnum hn h1) h2
    rw [List.length_append, List.length_singleton] at this
    omega
include hnum in
theorem rnums_le (c : Nat) : ∀ (n : Nat) (acc : List Int) (ts : List Int) (m : Nat), n ≤ b.length → rnums num c n acc = some (ts, m) → m ≤ b.length ∧ ts.length = acc.length + c := by
  induction c with
  | zero => intro n acc ts m hn h; simp only [rnums, Option.some.injEq, Prod.mk.injEq] at h; obtain ⟨rfl, rfl⟩ := h; exact ⟨hn, rfl⟩
  | succ c ih =>
    intro n acc ts m hn h
    rw [rnums] at h
    obtain ⟨⟨t, m1⟩, h1, h2⟩ := Option.bind_eq_some_iff.1 h
    have := ih m1 _ ts m (rnumber_le hnum hn h1) h2
    rw [List.length_append, List.length_singleton] at this
    omega
include hnum in
theorem rval_le {n m : Nat} {v : S66} (hn : n ≤ b.length) (h : rval b num n = some (v, m)) : m ≤ b.length ∧ okV v := by
  unfold rval at h
  obtain ⟨⟨f, m1⟩, h1, h⟩ := Option.bind_eq_some_iff.1 h
  obtain ⟨⟨c1, m2⟩, h2, h⟩ := Option.bind_eq_some_iff.1 h
  obtain ⟨⟨ts, m3⟩, h3, h⟩ := Option.bind_eq_some_iff.1 h
  obtain ⟨⟨c2, m4⟩, h4, h⟩ := Option.bind_eq_some_iff.1 h
  obtain ⟨⟨ns, m5⟩, h5, h⟩ := Option.bind_eq_some_iff.1 h
  simp only [Option.some.injEq, Prod.mk.injEq] at h
  obtain ⟨rfl, rfl⟩ := h
  have l1 := rtext_le hnum hn h1
  have l2 := rcount_le hnum l1 h2
  have l3 := rtexts_le hnum _ _ _ _ _ l2.1 h3
  have l4 := rcount_le hnum l3.1 h4
  have l5 := rnums_le hnum _ _ _ _ _ l4.1 h5
  simp only [List.length_nil] at l3 l5
  exact ⟨l5.1, by show ts.length ≤ _; omega, by show ns.length ≤ _; omega⟩
include hnum in
theorem rvals_le (c : Nat) : ∀ (n : Nat) (acc : List S66) (vs : List S66) (m : Nat), n ≤ b.length → (∀ v ∈ acc, okV v) → rvals b num c n acc = some (vs, m) → m ≤ b.length ∧ vs.length = acc.length + c ∧ ∀ v ∈ vs, okV v := by
  induction c with
  | zero => intro n acc ts m hn ho h; simp only [rvals, Option.some.injEq, Prod.mk.injEq] at h; obtain ⟨rfl, rfl⟩ := h; exact ⟨hn, rfl, ho⟩
  | succ c ih =>
    intro n acc vs m hn ho h
    rw [rvals] at h
    obtain ⟨⟨t, m1⟩, h1, h2⟩ := Option.bind_eq_some_iff.1 h
    obtain ⟨l1, o1⟩ := rval_le hnum hn h1
    have := ih m1 _ vs m l1 (fun v hv => by
      rcases List.mem_append.1 hv with hv | hv
      · exact ho v hv
      · rw [List.mem_singleton.1 hv]; exact o1) h2
    rw [List.length_append, List.length_singleton] at this
    exact ⟨this.1, by omega, this.2.2⟩
/-! the reference's reader -/
theorem snum_bad (a : Int) : Ev (fun k => spec_l06Reader_num.f k b a true) (0, a, true) := by
  unfold spec_l06Reader_num.f
  exact Ev.pos rfl (Ev.now _)
include hnum in
theorem snum_none {n : Nat} (hn : n ≤ b.length) (h : num n = none) : Ev (fun k => spec_l06Reader_num.f k b (n : Int) false) (0, (n : Int), true) := by
  have ht := hnum n hn
  rw [h] at ht
  obtain ⟨⟨x, y, hs⟩, _⟩ := ht
  unfold spec_l06Reader_num.f
  exact Ev.neg Bool.false_ne_true (Ev.bind hs (Ev.neg Bool.false_ne_true (Ev.now _)))
include hnum in
theorem snum_some {n m : Nat} {v : Int} (hn : n ≤ b.length) (h : num n = some (v, m)) : Ev (fun k => spec_l06Reader_num.f k b (n : Int) false) (v, (m : Int), false) := by
  have ht := hnum n hn
  rw [h] at ht
  obtain ⟨_, _, _, _, hs, _⟩ := ht
  unfold spec_l06Reader_num.f
  exact Ev.neg Bool.false_ne_true (Ev.bind hs (Ev.pos rfl (Ev.now _)))
include hl in
theorem stext_bad (a : Nat) (ha : a ≤ b.length) : Ev (fun k => spec_l06Reader_text.f k b (a : Int) true) ((⟨#[]⟩ : ByteArray), (a : Int), true) := by
  unfold spec_l06Reader_text.f
  exact Ev.bind (snum_bad _) (Ev.pos (by dsimp only; omega) (Ev.pos (by dsimp only; omega) (Ev.pos (by dsimp only; omega) (Ev.pos (by dsimp only; omega) (Ev.pos (by omega) (Ev.pos rfl (Ev.now _)))))))
include hl hnum in
theorem stext_some {n m : Nat} {t : ByteArray} (hn : n ≤ b.length) (h : rtext b num n = some (t, m)) : Ev (fun k => spec_l06Reader_text.f k b (n : Int) false) (t, (m : Int), false) := by
  have ht := hnum n hn
  unfold rtext at h
  cases hv : num n with
  | none => rw [hv] at h; cases h
  | some p =>
    obtain ⟨v, m1⟩ := p
    rw [hv] at h ht
    obtain ⟨h0, h1, h2, h3, _, _⟩ := ht
    simp only at h
    by_cases c : v > 65536 ∨ (m1 : Int) + v > (b.length : Int)
    · rw [if_pos c] at h; cases h
    · rw [if_neg c] at h
      simp only [Option.some.injEq, Prod.mk.injEq] at h
      obtain ⟨rfl, rfl⟩ := h
      unfold spec_l06Reader_text.f
      refine Ev.bind (snum_some hnum hn hv) (Ev.pos (by dsimp only; omega) (Ev.pos (by dsimp only; omega) (Ev.pos (by dsimp only; omega) (Ev.pos (by dsimp only; omega) (Ev.pos (by omega) (Ev.neg (by simp) (Ev.neg (by dsimp only; omega) (Ev.neg (by dsimp only; omega) ?_))))))))
      have e : ((m1 : Int) + v).toNat = m1 + v.toNat := by omega
      have e2 : ((m1 + v.toNat : Nat) : Int) = (m1 : Int) + v := by omega
      rw [e2]
      dsimp only
      rw [e, Int.toNat_natCast]
      exact Ev.now _
include hl hnum in
theorem stext_none {n : Nat} (hn : n ≤ b.length) (h : rtext b num n = none) : ∃ a : Nat, a ≤ b.length ∧ Ev (fun k => spec_l06Reader_text.f k b (n : Int) false) ((⟨#[]⟩ : ByteArray), (a : Int), true) := by
  have ht := hnum n hn
  unfold rtext at h
  unfold spec_l06Reader_text.f
  cases hv : num n with
  | none => exact ⟨n, hn, Ev.bind (snum_none hnum hn hv) (Ev.pos (by dsimp only; omega) (Ev.pos (by dsimp only; omega) (Ev.pos (by dsimp only; omega) (Ev.pos (by dsimp only; omega) (Ev.pos (by omega) (Ev.pos rfl (Ev.now _)))))))⟩
  | some p =>
    obtain ⟨v, m1⟩ := p
    rw [hv] at h ht
    obtain ⟨h0, h1, h2, h3, _, _⟩ := ht
    simp only at h
    by_cases c : v > 65536 ∨ (m1 : Int) + v > (b.length : Int)
    · refine ⟨m1, h3, Ev.bind (snum_some hnum hn hv) (Ev.pos (by dsimp only; omega) (Ev.pos (by dsimp only; omega) (Ev.pos (by dsimp only; omega) (Ev.pos (by dsimp only; omega) (Ev.pos (by omega) (Ev.neg (by simp) ?_))))))⟩
      by_cases c2 : v > (b.length : Int) - (m1 : Int)
      · exact Ev.pos (by dsimp only; omega) (Ev.now _)
      · exact Ev.neg (by dsimp only; omega) (Ev.pos (by dsimp only; omega) (Ev.now _))
    · rw [if_neg c] at h; cases h
theorem scount_bad (a : Int) : Ev (fun k => spec_l06Reader_count.f k b a true) (0, a, true) := by
  unfold spec_l06Reader_count.f
  exact Ev.bind (snum_bad _) (Ev.neg (by simp) (Ev.now _))
include hnum in
theorem scount_some {n m c : Nat} (hn : n ≤ b.length) (h : rcount num n = some (c, m)) : Ev (fun k => spec_l06Reader_count.f k b (n : Int) false) ((c : Int), (m : Int), false) := by
  have ht := hnum n hn
  unfold rcount at h
  cases hv : num n with
  | none => rw [hv] at h; cases h
  | some p =>
    obtain ⟨v, m1⟩ := p
    rw [hv] at h ht
    obtain ⟨h0, h1, h2, h3, _, _⟩ := ht
    simp only at h
    by_cases c : v > 4096
    · rw [if_pos c] at h; cases h
    · rw [if_neg c] at h
      simp only [Option.some.injEq, Prod.mk.injEq] at h
      obtain ⟨rfl, rfl⟩ := h
      rw [Int.toNat_of_nonneg h0]
      unfold spec_l06Reader_count.f
      exact Ev.bind (snum_some hnum hn hv) (Ev.neg (by dsimp only; omega) (Ev.now _))
include hnum in
theorem scount_none {n : Nat} (hn : n ≤ b.length) (h : rcount num n = none) : ∃ a : Nat, a ≤ b.length ∧ Ev (fun k => spec_l06Reader_count.f k b (n : Int) false) (0, (a : Int), true) := by
  have ht := hnum n hn
  unfold rcount at h
  unfold spec_l06Reader_count.f
  cases hv : num n with
  | none => exact ⟨n, hn, Ev.bind (snum_none hnum hn hv) (Ev.neg (by simp) (Ev.now _))⟩
  | some p =>
    obtain ⟨v, m1⟩ := p
    rw [hv] at h ht
    obtain ⟨h0, h1, h2, h3, _, _⟩ := ht
    simp only at h
    by_cases c : v > 4096
    · exact ⟨m1, h3, Ev.bind (snum_some hnum hn hv) (Ev.pos (by dsimp only; omega) (Ev.now _))⟩
    · rw [if_neg c] at h; cases h
theorem half0 : wrap64 (Int.tdiv 0 2) = 0 := by
  have h : Int.tdiv 0 2 = 0 := rfl
  rw [h]; unfold wrap64; omega
theorem snumber_bad (a : Int) : Ev (fun k => spec_l06Reader_number.f k b a true) (0, a, true) := by
  unfold spec_l06Reader_number.f
  refine Ev.bind (snum_bad _) (Ev.neg (by simp) (Ev.neg (by simp) ?_))
  exact Ev.ofEq (by dsimp only; rw [half0])
include hnum in
theorem snumber_some {n m : Nat} {c : Int} (hn : n ≤ b.length) (h : rnumber num n = some (c, m)) : Ev (fun k => spec_l06Reader_number.f k b (n : Int) false) (c, (m : Int), false) := by
  have ht := hnum n hn
  unfold rnumber at h
  cases hv : num n with
  | none => rw [hv] at h; cases h
  | some p =>
    obtain ⟨v, m1⟩ := p
    rw [hv] at h ht
    obtain ⟨h0, h1, h2, h3, _, _⟩ := ht
    simp only at h
    by_cases c : v > 2000000000000
    · rw [if_pos c] at h; cases h
    · rw [if_neg c] at h
      simp only [Option.some.injEq, Prod.mk.injEq] at h
      obtain ⟨rfl, rfl⟩ := h
      unfold spec_l06Reader_number.f numOf
      refine Ev.bind (snum_some hnum hn hv) (Ev.neg (by dsimp only; omega) ?_)
      by_cases d : Int.tmod v 2 = 1
      · dsimp only; simp only [if_pos d]; exact Ev.now _
      · dsimp only; simp only [if_neg d]; exact Ev.now _
include hnum in
theorem snumber_none {n : Nat} (hn : n ≤ b.length) (h : rnumber num n = none) : ∃ a : Nat, a ≤ b.length ∧ Ev (fun k => spec_l06Reader_number.f k b (n : Int) false) (0, (a : Int), true) := by
  have ht := hnum n hn
  unfold rnumber at h
  unfold spec_l06Reader_number.f
  cases hv : num n with
  | none => exact ⟨n, hn, Ev.bind (snum_none hnum hn hv) (Ev.neg (by simp) (Ev.neg (by simp) (Ev.ofEq (by dsimp only; rw [half0]))))⟩
  | some p =>
    obtain ⟨v, m1⟩ := p
    rw [hv] at h ht
    obtain ⟨h0, h1, h2, h3, _, _⟩ := ht
    simp only at h
    by_cases c : v > 2000000000000
    · exact ⟨m1, h3, Ev.bind (snum_some hnum hn hv) (Ev.pos (by dsimp only; omega) (Ev.now _))⟩
    · rw [if_neg c] at h; cases h
theorem wp1 (c : Nat) (h : c ≤ 281474976710656) : wrap64 (((c + 1 : Nat) : Int) - 1) = (c : Int) := by rw [w64 (by omega) (by omega)]; omega
theorem sl0_bad (x4 a : Int) (id : ByteArray) (vals : List S66) : Ev (fun k => spec_l06Reader_doc.l0 k x4 b a true id vals) (id, vals, a, true) := by
  refine Ev.step (fun k => by rw [spec_l06Reader_doc.l0]) ?_
  have hj : Ev (fun k => spec_l06Reader_doc.j1 k x4 false b a true id vals) (id, vals, a, true) := (by refine Ev.step (fun k => by rw [spec_l06Reader_doc.j1]) ?_; exact Ev.neg Bool.false_ne_true (Ev.now _))
  by_cases h : x4 > 0
  · exact Ev.pos h hj
  · exact Ev.neg h hj
theorem sl2_bad (x4 x7 a : Int) (id : ByteArray) (vals : List S66) (f : ByteArray) (ts : List ByteArray) (ns : List Int) (hv : vals.length < 2199023255552) : Ev (fun k => spec_l06Reader_doc.l2 k x4 x7 b a true id vals f ts ns) (id, vals ++ [⟨f, ts, ns⟩], a, true) := by
  refine Ev.step (fun k => by rw [spec_l06Reader_doc.l2]) ?_
  by_cases h : x7 > 0
  · exact Ev.pos h (Ev.pos rfl (Ev.pos hv (sl0_bad _ _ _ _)))
  · exact Ev.neg h (Ev.pos hv (sl0_bad _ _ _ _))
theorem sj3_bad (x4 a : Int) (id : ByteArray) (vals : List S66) (f : ByteArray) (ts : List ByteArray) (hv : vals.length < 2199023255552) : Ev (fun k => spec_l06Reader_doc.j3 k x4 b a true id vals f ts) (id, vals ++ [⟨f, ts, []⟩], a, true) := by
  refine Ev.step (fun k => by rw [spec_l06Reader_doc.j3]) ?_
  exact Ev.bind (scount_bad _) (sl2_bad _ _ _ _ _ _ _ _ hv)
theorem sl1_bad (x4 x6 a : Int) (id : ByteArray) (vals : List S66) (f : ByteArray) (ts : List ByteArray) (hv : vals.length < 2199023255552) : Ev (fun k => spec_l06Reader_doc.l1 k x4 x6 b a true id vals f ts) (id, vals ++ [⟨f, ts, []⟩], a, true) := by
  refine Ev.step (fun k => by rw [spec_l06Reader_doc.l1]) ?_
  by_cases h : x6 > 0
  · exact Ev.pos h (Ev.pos rfl (sj3_bad _ _ _ _ _ _ hv))
  · exact Ev.neg h (sj3_bad _ _ _ _ _ _ hv)
include hl hnum in
theorem sl1_some (x4 : Int) (id : ByteArray) (vals : List S66) (f : ByteArray) (r : ByteArray × List S66 × Int × Bool) (c : Nat) : ∀ (n : Nat) (acc : List ByteArray) (ts : List ByteArray) (m : Nat), n ≤ b.length → acc.length + c ≤ 4096 → rtexts b num c n acc = some (ts, m) →
    Ev (fun k => spec_l06Reader_doc.j3 k x4 b (m : Int) false id vals f ts) r → Ev (fun k => spec_l06Reader_doc.l1 k x4 (c : Int) b (n : Int) false id vals f acc) r := by
  induction c with
  | zero =>
    intro n acc ts m hn ha h hr
    simp only [rtexts, Option.some.injEq, Prod.mk.injEq] at h
    obtain ⟨rfl, rfl⟩ := h
    refine Ev.step (fun k => by rw [spec_l06Reader_doc.l1]) ?_
    exact Ev.neg (by omega) hr
  | succ c ih =>
    intro n acc ts m hn ha h hr
    rw [rtexts] at h
    obtain ⟨⟨t, m1⟩, h1, h2⟩ := Option.bind_eq_some_iff.1 h
    refine Ev.step (fun k => by rw [spec_l06Reader_doc.l1, wp1 c (by omega)]) ?_
    refine Ev.pos (by omega) (Ev.neg Bool.false_ne_true (Ev.bind (stext_some hl hnum hn h1) (Ev.pos (by omega) ?_)))
    exact ih m1 _ ts m (rtext_le hnum hn h1) (by rw [List.length_append, List.length_singleton]; omega) h2 hr
include hl hnum in
theorem sl1_none (x4 : Int) (id : ByteArray) (vals : List S66) (f : ByteArray) (hv : vals.length < 2199023255552) (c : Nat) : ∀ (n : Nat) (acc : List ByteArray), n ≤ b.length → acc.length + c ≤ 4096 → rtexts b num c n acc = none →
    ∃ r : ByteArray × List S66 × Int × Bool, r.2.2.2 = true ∧ Ev (fun k => spec_l06Reader_doc.l1 k x4 (c : Int) b (n : Int) false id vals f acc) r := by
  induction c with
  | zero => intro n acc hn ha h; simp [rtexts] at h
  | succ c ih =>
    intro n acc hn ha h
    rw [rtexts] at h
    cases h1 : rtext b num n with
    | none =>
      obtain ⟨a, ha', ht⟩ := stext_none hl hnum hn h1
      exact ⟨(id, vals ++ [⟨f, acc ++ [(⟨#[]⟩ : ByteArray)], []⟩], (a : Int), true), rfl, (by refine Ev.step (fun k => by rw [spec_l06Reader_doc.l1, wp1 c (by omega)]) ?_; exact Ev.pos (by omega) (Ev.neg Bool.false_ne_true (Ev.bind ht (Ev.pos (by omega) (sl1_bad _ _ _ _ _ _ _ hv)))))⟩
    | some p =>
      obtain ⟨t, m1⟩ := p
      rw [h1] at h
      obtain ⟨r, hr, hE⟩ := ih m1 (acc ++ [t]) (rtext_le hnum hn h1) (by rw [List.length_append, List.length_singleton]; omega) h
      exact ⟨r, hr, (by refine Ev.step (fun k => by rw [spec_l06Reader_doc.l1, wp1 c (by omega)]) ?_; exact Ev.pos (by omega) (Ev.neg Bool.false_ne_true (Ev.bind (stext_some hl hnum hn h1) (Ev.pos (by omega) hE))))⟩
include hnum in
theorem sl2_some (x4 : Int) (id : ByteArray) (vals : List S66) (f : ByteArray) (ts : List ByteArray) (hv : vals.length < 2199023255552) (r : ByteArray × List S66 × Int × Bool) (c : Nat) : ∀ (n : Nat) (acc : List Int) (ns : List Int) (m : Nat), n ≤ b.length → acc.length + c ≤ 4096 → rnums num c n acc = some (ns, m) →
    Ev (fun k => spec_l06Reader_doc.l0 k (wrap64 (x4 - 1)) b (m : Int) false id (vals ++ [⟨f, ts, ns⟩])) r → Ev (fun k => spec_l06Reader_doc.l2 k x4 (c : Int) b (n : Int) false id vals f ts acc) r := by
  induction c with
  | zero =>
    intro n acc ns m hn ha h hr
    simp only [rnums, Option.some.injEq, Prod.mk.injEq] at h
    obtain ⟨rfl, rfl⟩ := h
    refine Ev.step (fun k => by rw [spec_l06Reader_doc.l2]) ?_
    exact Ev.neg (by omega) (Ev.pos hv hr)
  | succ c ih =>
    intro n acc ns m hn ha h hr
    rw [rnums] at h
    obtain ⟨⟨t, m1⟩, h1, h2⟩ := Option.bind_eq_some_iff.1 h
    refine Ev.step (fun k => by rw [spec_l06Reader_doc.l2, wp1 c (by omega)]) ?_
    refine Ev.pos (by omega) (Ev.neg Bool.false_ne_true (Ev.bind (snumber_some hnum hn h1) (Ev.pos (by omega) ?_)))
    exact ih m1 _ ns m (rnumber_le hnum hn h1) (by rw [List.length_append, List.length_singleton]; omega) h2 hr
include hnum in
theorem sl2_none (x4 : Int) (id : ByteArray) (vals : List S66) (f : ByteArray) (ts : List ByteArray) (hv : vals.length < 2199023255552) (c : Nat) : ∀ (n : Nat) (acc : List Int), n ≤ b.length → acc.length + c ≤ 4096 → rnums num c n acc = none →
    ∃ r : ByteArray × List S66 × Int × Bool, r.2.2.2 = true ∧ Ev (fun k => spec_l06Reader_doc.l2 k x4 (c : Int) b (n : Int) false id vals f ts acc) r := by
  induction c with
  | zero => intro n acc hn ha h; simp [rnums] at h
  | succ c ih =>
    intro n acc hn ha h
    rw [rnums] at h
    cases h1 : rnumber num n with
    | none =>
      obtain ⟨a, ha', ht⟩ := snumber_none hnum hn h1
      exact ⟨(id, vals ++ [⟨f, ts, acc ++ [0]⟩], (a : Int), true), rfl, (by refine Ev.step (fun k => by rw [spec_l06Reader_doc.l2, wp1 c (by omega)]) ?_; exact Ev.pos (by omega) (Ev.neg Bool.false_ne_true (Ev.bind ht (Ev.pos (by omega) (sl2_bad _ _ _ _ _ _ _ _ hv)))))⟩
    | some p =>
      obtain ⟨t, m1⟩ := p
      rw [h1] at h
      obtain ⟨r, hr, hE⟩ := ih m1 (acc ++ [t]) (rnumber_le hnum hn h1) (by rw [List.length_append, List.length_singleton]; omega) h
      exact ⟨r, hr, (by refine Ev.step (fun k => by rw [spec_l06Reader_doc.l2, wp1 c (by omega)]) ?_; exact Ev.pos (by omega) (Ev.neg Bool.false_ne_true (Ev.bind (snumber_some hnum hn h1) (Ev.pos (by omega) hE))))⟩
include hl hnum in
theorem sl0_good (id : ByteArray) (c : Nat) : ∀ (n : Nat) (vals : List S66), n ≤ b.length → vals.length + c ≤ 4096 →
    ∃ r : ByteArray × List S66 × Int × Bool, Good ((rvals b num c n vals).bind fun t => some (id, t.1, t.2)) r ∧ Ev (fun k => spec_l06Reader_doc.l0 k (c : Int) b (n : Int) false id vals) r := by
  induction c with
  | zero =>
    intro n vals hn hv
    exact ⟨(id, vals, (n : Int), false), rfl, (by refine Ev.step (fun k => by rw [spec_l06Reader_doc.l0]) ?_; exact Ev.neg (by omega) ((by refine Ev.step (fun k => by rw [spec_l06Reader_doc.j1]) ?_; exact Ev.neg Bool.false_ne_true (Ev.now _))))⟩
  | succ c ih =>
    intro n vals hn hv
    have hv' : vals.length < 2199023255552 := by omega
    suffices hs : ∃ r : ByteArray × List S66 × Int × Bool, Good ((rvals b num (c + 1) n vals).bind fun t => some (id, t.1, t.2)) r ∧ Ev (fun k => (spec_l06Reader_text.f k b (n : Int) false).bind fun bt142 => ((spec_l06Reader_count.f k b bt142.2.1 bt142.2.2).bind fun bt146 => (spec_l06Reader_doc.l1 k ((c + 1 : Nat) : Int) bt146.1 b bt146.2.1 bt146.2.2 id vals bt142.1 ([] : List ByteArray)))) r by
      obtain ⟨r, hg, hr⟩ := hs
      exact ⟨r, hg, (by refine Ev.step (fun k => by rw [spec_l06Reader_doc.l0]) ?_; exact Ev.pos (by omega) ((by refine Ev.step (fun k => by rw [spec_l06Reader_doc.j1]) ?_; exact Ev.pos rfl hr)))⟩
    rw [rvals]
    unfold rval
    cases h1 : rtext b num n with
    | none =>
      obtain ⟨a, ha, ht⟩ := stext_none hl hnum hn h1
      exact ⟨_, (by rfl), Ev.bind ht (Ev.bind (scount_bad _) (sl1_bad _ _ _ _ _ _ _ hv'))⟩
    | some p =>
      obtain ⟨f, m1⟩ := p
      have l1 := rtext_le hnum hn h1
      have ht := stext_some hl hnum hn h1
      simp only [Option.bind_some]
      cases h2 : rcount num m1 with
      | none =>
        obtain ⟨a, ha, hc⟩ := scount_none hnum l1 h2
        exact ⟨_, (by rfl), Ev.bind ht (Ev.bind hc (sl1_bad _ _ _ _ _ _ _ hv'))⟩
      | some p =>
        obtain ⟨c1, m2⟩ := p
        have l2 := rcount_le hnum l1 h2
        have hc := scount_some hnum l1 h2
        simp only [Option.bind_some]
        cases h3 : rtexts b num c1 m2 [] with
        | none =>
          obtain ⟨r, hr, hE⟩ := sl1_none hl hnum ((c + 1 : Nat) : Int) id vals f hv' c1 m2 [] l2.1 (by simp only [List.length_nil]; omega) h3
          exact ⟨r, hr, Ev.bind ht (Ev.bind hc hE)⟩
        | some p =>
          obtain ⟨ts, m3⟩ := p
          have l3 := rtexts_le hnum _ _ _ _ _ l2.1 h3
          have H := fun r => sl1_some hl hnum ((c + 1 : Nat) : Int) id vals f r c1 m2 [] ts m3 l2.1 (by simp only [List.length_nil]; omega) h3
          simp only [Option.bind_some]
          suffices hs : ∃ r : ByteArray × List S66 × Int × Bool, Good (((((rcount num m3).bind fun q2 => (rnums num q2.1 q2.2 []).bind fun u => some ((⟨f, ts, u.1⟩ : S66), u.2)).bind fun p => rvals b num c p.2 (vals ++ [p.1])).bind fun t => some (id, t.1, t.2))) r ∧ Ev (fun k => (spec_l06Reader_count.f k b (m3 : Int) false).bind fun bt155 => (spec_l06Reader_doc.l2 k ((c + 1 : Nat) : Int) bt155.1 b bt155.2.1 bt155.2.2 id vals f ts ([] : List Int))) r by
            obtain ⟨r, hg, hr⟩ := hs
            exact ⟨r, hg, Ev.bind ht (Ev.bind hc (H r (Ev.step (fun k => by rw [spec_l06Reader_doc.j3]) hr)))⟩
          cases h4 : rcount num m3 with
          | none =>
            obtain ⟨a, ha, hc2⟩ := scount_none hnum l3.1 h4
            exact ⟨_, (by rfl), Ev.bind hc2 (sl2_bad _ _ _ _ _ _ _ _ hv')⟩
          | some p =>
            obtain ⟨c2, m4⟩ := p
            have l4 := rcount_le hnum l3.1 h4
            have hc2 := scount_some hnum l3.1 h4
            simp only [Option.bind_some]
            cases h5 : rnums num c2 m4 [] with
            | none =>
              obtain ⟨r, hr, hE⟩ := sl2_none hnum ((c + 1 : Nat) : Int) id vals f ts hv' c2 m4 [] l4.1 (by simp only [List.length_nil]; omega) h5
              exact ⟨r, hr, Ev.bind hc2 hE⟩
            | some p =>
              obtain ⟨ns, m5⟩ := p
              have l5 := rnums_le hnum _ _ _ _ _ l4.1 h5
              obtain ⟨r, hg, hE⟩ := ih m5 (vals ++ [⟨f, ts, ns⟩]) l5.1 (by rw [List.length_append, List.length_singleton]; omega)
              rw [← wp1 c (by omega)] at hE
              exact ⟨r, hg, Ev.bind hc2 (sl2_some hnum ((c + 1 : Nat) : Int) id vals f ts hv' r c2 m4 [] ns m5 l4.1 (by simp only [List.length_nil]; omega) h5 hE)⟩
include hl hnum in
theorem sdoc_good : ∃ r : ByteArray × List S66 × Int × Bool, Good (rdoc b num) r ∧ Ev (fun k => spec_l06Reader_doc.f k b 0 false) r := by
  unfold rdoc spec_l06Reader_doc.f
  cases h1 : rtext b num 0 with
  | none =>
    obtain ⟨a, ha, ht⟩ := stext_none hl hnum (Nat.zero_le _) h1
    exact ⟨_, (by rfl), Ev.bind ht (Ev.bind (scount_bad _) (sl0_bad _ _ _ _))⟩
  | some p =>
    obtain ⟨id, m1⟩ := p
    have l1 := rtext_le hnum (Nat.zero_le _) h1
    have ht := stext_some hl hnum (Nat.zero_le _) h1
    simp only [Option.bind_some]
    cases h2 : rcount num m1 with
    | none =>
      obtain ⟨a, ha, hc⟩ := scount_none hnum l1 h2
      exact ⟨_, (by rfl), Ev.bind ht (Ev.bind hc (sl0_bad _ _ _ _))⟩
    | some p =>
      obtain ⟨c, m2⟩ := p
      have l2 := rcount_le hnum l1 h2
      have hc := scount_some hnum l1 h2
      obtain ⟨r, hg, hE⟩ := sl0_good hl hnum id c m2 [] l2.1 (by simp only [List.length_nil]; omega)
      exact ⟨r, hg, Ev.bind ht (Ev.bind hc hE)⟩
end

/-! the program's reader -/
section
variable {b : List Int} {num : Nat → Option (Int × Nat)} (hl : b.length ≤ 1048576) (hnum : ∀ n, n ≤ b.length → Told b n (num n))
theorem iint_bad (a most : Int) : Ev (fun k => impl_docReader_int.f k b a true most) (0, a, true) := by
  unfold impl_docReader_int.f
  exact Ev.pos rfl (Ev.now _)
include hnum in
theorem iint_none {n : Nat} (most : Int) (hn : n ≤ b.length) (h : num n = none) : Ev (fun k => impl_docReader_int.f k b (n : Int) false most) (0, (n : Int), true) := by
  have ht := hnum n hn
  rw [h] at ht
  obtain ⟨_, hi⟩ := ht
  unfold impl_docReader_int.f
  exact Ev.neg Bool.false_ne_true (Ev.bind hi (Ev.neg (by decide) (Ev.now _)))
include hnum in
theorem iint_over {n m : Nat} {v : Int} (most : Int) (hn : n ≤ b.length) (h : num n = some (v, m)) (ho : v > most) : Ev (fun k => impl_docReader_int.f k b (n : Int) false most) (0, (n : Int), true) := by
  have ht := hnum n hn
  rw [h] at ht
  obtain ⟨_, _, _, _, _, hi⟩ := ht
  unfold impl_docReader_int.f
  exact Ev.neg Bool.false_ne_true (Ev.bind hi (Ev.pos rfl (Ev.pos ho (Ev.now _))))
include hnum in
theorem iint_some {n m : Nat} {v : Int} (most : Int) (hn : n ≤ b.length) (h : num n = some (v, m)) (ho : ¬ v > most) : Ev (fun k => impl_docReader_int.f k b (n : Int) false most) (v, (m : Int), false) := by
  have ht := hnum n hn
  rw [h] at ht
  obtain ⟨_, _, _, _, _, hi⟩ := ht
  unfold impl_docReader_int.f
  exact Ev.neg Bool.false_ne_true (Ev.bind hi (Ev.pos rfl (Ev.neg ho (Ev.now _))))
include hl in
theorem itext_bad (a : Nat) (ha : a ≤ b.length) : Ev (fun k => impl_docReader_text.f k b (a : Int) true) ((⟨#[]⟩ : ByteArray), (a : Int), true) := by
  unfold impl_docReader_text.f
  exact Ev.bind (iint_bad _ _) (Ev.pos (by dsimp only; omega) (Ev.pos (by dsimp only; omega) (Ev.pos (by dsimp only; omega) (Ev.pos (by dsimp only; omega) (Ev.pos (by omega) (Ev.pos rfl (Ev.now _)))))))
include hl hnum in
theorem itext_some {n m : Nat} {t : ByteArray} (hn : n ≤ b.length) (h : rtext b num n = some (t, m)) : Ev (fun k => impl_docReader_text.f k b (n : Int) false) (t, (m : Int), false) := by
  have ht := hnum n hn
  unfold rtext at h
  cases hv : num n with
  | none => rw [hv] at h; cases h
  | some p =>
    obtain ⟨v, m1⟩ := p
    rw [hv] at h ht
    obtain ⟨h0, h1, h2, h3, _, _⟩ := ht
    simp only at h
    by_cases c : v > 65536 ∨ (m1 : Int) + v > (b.length : Int)
    · rw [if_pos c] at h; cases h
    · rw [if_neg c] at h
      simp only [Option.some.injEq, Prod.mk.injEq] at h
      obtain ⟨rfl, rfl⟩ := h
      unfold impl_docReader_text.f
      refine Ev.bind (iint_some hnum 65536 hn hv (by omega)) (Ev.pos (by dsimp only; omega) (Ev.pos (by dsimp only; omega) (Ev.pos (by dsimp only; omega) (Ev.pos (by dsimp only; omega) (Ev.pos (by omega) (Ev.neg (by simp) (Ev.neg (by dsimp only; omega) ?_)))))))
      have e : ((m1 : Int) + v).toNat = m1 + v.toNat := by omega
      have e2 : ((m1 + v.toNat : Nat) : Int) = (m1 : Int) + v := by omega
      rw [e2]
      dsimp only
      rw [e, Int.toNat_natCast]
      exact Ev.now _
include hl hnum in
theorem itext_none {n : Nat} (hn : n ≤ b.length) (h : rtext b num n = none) : ∃ a : Nat, a ≤ b.length ∧ Ev (fun k => impl_docReader_text.f k b (n : Int) false) ((⟨#[]⟩ : ByteArray), (a : Int), true) := by
  have ht := hnum n hn
  unfold rtext at h
  unfold impl_docReader_text.f
  cases hv : num n with
  | none => exact ⟨n, hn, Ev.bind (iint_none hnum 65536 hn hv) (Ev.pos (by dsimp only; omega) (Ev.pos (by dsimp only; omega) (Ev.pos (by dsimp only; omega) (Ev.pos (by dsimp only; omega) (Ev.pos (by omega) (Ev.pos rfl (Ev.now _)))))))⟩
  | some p =>
    obtain ⟨v, m1⟩ := p
    rw [hv] at h ht
    obtain ⟨h0, h1, h2, h3, _, _⟩ := ht
    simp only at h
    by_cases c : v > 65536 ∨ (m1 : Int) + v > (b.length : Int)
    · by_cases c2 : v > 65536
      · exact ⟨n, hn, Ev.bind (iint_over hnum 65536 hn hv c2) (Ev.pos (by dsimp only; omega) (Ev.pos (by dsimp only; omega) (Ev.pos (by dsimp only; omega) (Ev.pos (by dsimp only; omega) (Ev.pos (by omega) (Ev.pos rfl (Ev.now _)))))))⟩
      · exact ⟨m1, h3, Ev.bind (iint_some hnum 65536 hn hv c2) (Ev.pos (by dsimp only; omega) (Ev.pos (by dsimp only; omega) (Ev.pos (by dsimp only; omega) (Ev.pos (by dsimp only; omega) (Ev.pos (by omega) (Ev.neg (by simp) (Ev.pos (by dsimp only; omega) (Ev.now _))))))))⟩
    · rw [if_neg c] at h; cases h
include hnum in
theorem icount_some {n m c : Nat} (hn : n ≤ b.length) (h : rcount num n = some (c, m)) : Ev (fun k => impl_docReader_int.f k b (n : Int) false 4096) ((c : Int), (m : Int), false) := by
  have ht := hnum n hn
  unfold rcount at h
  cases hv : num n with
  | none => rw [hv] at h; cases h
  | some p =>
    obtain ⟨v, m1⟩ := p
    rw [hv] at h ht
    obtain ⟨h0, h1, h2, h3, _, _⟩ := ht
    simp only at h
    by_cases c : v > 4096
    · rw [if_pos c] at h; cases h
    · rw [if_neg c] at h
      simp only [Option.some.injEq, Prod.mk.injEq] at h
      obtain ⟨rfl, rfl⟩ := h
      rw [Int.toNat_of_nonneg h0]
      exact iint_some hnum 4096 hn hv c
include hnum in
theorem icount_none {n : Nat} (hn : n ≤ b.length) (h : rcount num n = none) : Ev (fun k => impl_docReader_int.f k b (n : Int) false 4096) (0, (n : Int), true) := by
  unfold rcount at h
  cases hv : num n with
  | none => exact iint_none hnum 4096 hn hv
  | some p =>
    obtain ⟨v, m1⟩ := p
    rw [hv] at h
    simp only at h
    by_cases c : v > 4096
    · exact iint_over hnum 4096 hn hv c
    · rw [if_neg c] at h; cases h
include hnum in
theorem inumber_some {n m : Nat} {c : Int} (hn : n ≤ b.length) (h : rnumber num n = some (c, m)) : ∃ v : Int, c = numOf v ∧ Ev (fun k => impl_docReader_int.f k b (n : Int) false 2000000000000) (v, (m : Int), false) := by
  unfold rnumber at h
  cases hv : num n with
  | none => rw [hv] at h; cases h
  | some p =>
    obtain ⟨v, m1⟩ := p
    rw [hv] at h
    simp only at h
    by_cases c : v > 2000000000000
    · rw [if_pos c] at h; cases h
    · rw [if_neg c] at h
      simp only [Option.some.injEq, Prod.mk.injEq] at h
      obtain ⟨rfl, rfl⟩ := h
      exact ⟨v, rfl, iint_some hnum _ hn hv c⟩
include hnum in
theorem inumber_none {n : Nat} (hn : n ≤ b.length) (h : rnumber num n = none) : Ev (fun k => impl_docReader_int.f k b (n : Int) false 2000000000000) (0, (n : Int), true) := by
  unfold rnumber at h
  cases hv : num n with
  | none => exact iint_none hnum _ hn hv
  | some p =>
    obtain ⟨v, m1⟩ := p
    rw [hv] at h
    simp only at h
    by_cases c : v > 2000000000000
    · exact iint_over hnum _ hn hv c
    · rw [if_neg c] at h; cases h
theorem il2_bad (x10 x11 a : Int) (id : ByteArray) (vals : List S66) (f : ByteArray) (ts : List ByteArray) (hv : vals.length < 2199023255552) : Ev (fun k => impl_docReader_doc.l2 k x10 x11 0 0 b a true id vals f ts []) (id, vals ++ [⟨f, ts, []⟩], a, true) := by
  refine Ev.step (fun k => by rw [impl_docReader_doc.l2]) ?_
  refine Ev.neg (by omega) (Ev.pos hv ?_)
  exact Ev.bind (Ev.now _) (Ev.pos rfl (Ev.now _))
theorem il1_bad (x10 x11 a : Int) (id : ByteArray) (vals : List S66) (f : ByteArray) (hv : vals.length < 2199023255552) : Ev (fun k => impl_docReader_doc.l1 k x10 x11 0 0 b a true id vals f []) (id, vals ++ [⟨f, [], []⟩], a, true) := by
  refine Ev.step (fun k => by rw [impl_docReader_doc.l1]) ?_
  exact Ev.neg (by omega) (Ev.bind (iint_bad _ _) (il2_bad _ _ _ _ _ _ _ hv))
include hl hnum in
theorem il1_some (x10 x11 : Int) (id : ByteArray) (vals : List S66) (f : ByteArray) (C : Nat) (hC : C ≤ 4096) (r : ByteArray × List S66 × Int × Bool) (c : Nat) : ∀ (j n : Nat) (acc : List ByteArray) (ts : List ByteArray) (m : Nat), j + c = C → n ≤ b.length → acc.length + c ≤ 4096 → rtexts b num c n acc = some (ts, m) →
    Ev (fun k => (impl_docReader_int.f k b (m : Int) false 4096).bind fun bt210 => (impl_docReader_doc.l2 k x10 x11 bt210.1 0 b bt210.2.1 bt210.2.2 id vals f ts ([] : List Int))) r → Ev (fun k => impl_docReader_doc.l1 k x10 x11 (C : Int) (j : Int) b (n : Int) false id vals f acc) r := by
  induction c with
  | zero =>
    intro j n acc ts m hj hn ha h hr
    simp only [rtexts, Option.some.injEq, Prod.mk.injEq] at h
    obtain ⟨rfl, rfl⟩ := h
    refine Ev.step (fun k => by rw [impl_docReader_doc.l1]) ?_
    exact Ev.neg (by omega) hr
  | succ c ih =>
    intro j n acc ts m hj hn ha h hr
    rw [rtexts] at h
    obtain ⟨⟨t, m1⟩, h1, h2⟩ := Option.bind_eq_some_iff.1 h
    refine Ev.step (fun k => by rw [impl_docReader_doc.l1, wnD j (by omega)]) ?_
    refine Ev.pos (by omega) (Ev.bind (itext_some hl hnum hn h1) (Ev.pos (by omega) (Ev.neg Bool.false_ne_true ?_)))
    exact ih (j + 1) m1 _ ts m (by omega) (rtext_le hnum hn h1) (by rw [List.length_append, List.length_singleton]; omega) h2 hr
include hl hnum in
theorem il1_none (x10 x11 : Int) (id : ByteArray) (vals : List S66) (f : ByteArray) (C : Nat) (hC : C ≤ 4096) (c : Nat) : ∀ (j n : Nat) (acc : List ByteArray), j + c = C → n ≤ b.length → acc.length + c ≤ 4096 → rtexts b num c n acc = none →
    ∃ r : ByteArray × List S66 × Int × Bool, r.2.2.2 = true ∧ Ev (fun k => impl_docReader_doc.l1 k x10 x11 (C : Int) (j : Int) b (n : Int) false id vals f acc) r := by
  induction c with
  | zero => intro j n acc hj hn ha h; simp [rtexts] at h
  | succ c ih =>
    intro j n acc hj hn ha h
    rw [rtexts] at h
    cases h1 : rtext b num n with
    | none =>
      obtain ⟨a, ha', ht⟩ := itext_none hl hnum hn h1
      refine ⟨(id, vals, (a : Int), true), rfl, ?_⟩
      refine Ev.step (fun k => by rw [impl_docReader_doc.l1, wnD j (by omega)]) ?_
      exact Ev.pos (by omega) (Ev.bind ht (Ev.pos (by omega) (Ev.pos rfl (Ev.now _))))
    | some p =>
      obtain ⟨t, m1⟩ := p
      rw [h1] at h
      obtain ⟨r, hr, hE⟩ := ih (j + 1) m1 (acc ++ [t]) (by omega) (rtext_le hnum hn h1) (by rw [List.length_append, List.length_singleton]; omega) h
      refine ⟨r, hr, ?_⟩
      refine Ev.step (fun k => by rw [impl_docReader_doc.l1, wnD j (by omega)]) ?_
      exact Ev.pos (by omega) (Ev.bind (itext_some hl hnum hn h1) (Ev.pos (by omega) (Ev.neg Bool.false_ne_true hE)))
include hnum in
theorem il2_some (x10 x11 : Int) (id : ByteArray) (vals : List S66) (f : ByteArray) (ts : List ByteArray) (hv : vals.length < 2199023255552) (C : Nat) (hC : C ≤ 4096) (r : ByteArray × List S66 × Int × Bool) (c : Nat) : ∀ (j n : Nat) (acc : List Int) (ns : List Int) (m : Nat), j + c = C → n ≤ b.length → acc.length + c ≤ 4096 → rnums num c n acc = some (ns, m) →
    Ev (fun k => impl_docReader_doc.l0 k x10 (wrap64 (x11 + 1)) b (m : Int) false id (vals ++ [⟨f, ts, ns⟩])) r → Ev (fun k => impl_docReader_doc.l2 k x10 x11 (C : Int) (j : Int) b (n : Int) false id vals f ts acc) r := by
  induction c with
  | zero =>
    intro j n acc ns m hj hn ha h hr
    simp only [rnums, Option.some.injEq, Prod.mk.injEq] at h
    obtain ⟨rfl, rfl⟩ := h
    refine Ev.step (fun k => by rw [impl_docReader_doc.l2]) ?_
    refine Ev.neg (by omega) (Ev.pos hv ?_)
    exact Ev.bind (Ev.now _) (Ev.neg Bool.false_ne_true hr)
  | succ c ih =>
    intro j n acc ns m hj hn ha h hr
    rw [rnums] at h
    obtain ⟨⟨t, m1⟩, h1, h2⟩ := Option.bind_eq_some_iff.1 h
    obtain ⟨v, rfl, hi⟩ := inumber_some hnum hn h1
    have hE := ih (j + 1) m1 _ ns m (by omega) (rnumber_le hnum hn h1) (by rw [List.length_append, List.length_singleton]; omega) h2 hr
    refine Ev.step (fun k => by rw [impl_docReader_doc.l2, wnD j (by omega)]) ?_
    refine Ev.pos (by omega) (Ev.bind hi ?_)
    unfold numOf at hE
    by_cases d : Int.tmod v 2 = 1
    · simp only [if_pos d] at hE
      exact Ev.pos d (Ev.pos (by omega) (Ev.neg Bool.false_ne_true hE))
    · simp only [if_neg d] at hE
      exact Ev.neg d (Ev.pos (by omega) (Ev.neg Bool.false_ne_true hE))
include hnum in
theorem il2_none (x10 x11 : Int) (id : ByteArray) (vals : List S66) (f : ByteArray) (ts : List ByteArray) (C : Nat) (hC : C ≤ 4096) (c : Nat) : ∀ (j n : Nat) (acc : List Int), j + c = C → n ≤ b.length → acc.length + c ≤ 4096 → rnums num c n acc = none →
    ∃ r : ByteArray × List S66 × Int × Bool, r.2.2.2 = true ∧ Ev (fun k => impl_docReader_doc.l2 k x10 x11 (C : Int) (j : Int) b (n : Int) false id vals f ts acc) r := by
  induction c with
  | zero => intro j n acc hj hn ha h; simp [rnums] at h
  | succ c ih =>
    intro j n acc hj hn ha h
    rw [rnums] at h
    cases h1 : rnumber num n with
    | none =>
      have ht := inumber_none hnum hn h1
      refine ⟨(id, vals, (n : Int), true), rfl, ?_⟩
      refine Ev.step (fun k => by rw [impl_docReader_doc.l2, wnD j (by omega)]) ?_
      exact Ev.pos (by omega) (Ev.bind ht (Ev.neg (by simp) (Ev.pos (by omega) (Ev.pos rfl (Ev.now _)))))
    | some p =>
      obtain ⟨t, m1⟩ := p
      rw [h1] at h
      obtain ⟨v, rfl, hi⟩ := inumber_some hnum hn h1
      obtain ⟨r, hr, hE⟩ := ih (j + 1) m1 (acc ++ [numOf v]) (by omega) (rnumber_le hnum hn h1) (by rw [List.length_append, List.length_singleton]; omega) h
      refine ⟨r, hr, ?_⟩
      refine Ev.step (fun k => by rw [impl_docReader_doc.l2, wnD j (by omega)]) ?_
      refine Ev.pos (by omega) (Ev.bind hi ?_)
      unfold numOf at hE
      by_cases d : Int.tmod v 2 = 1
      · simp only [if_pos d] at hE
        exact Ev.pos d (Ev.pos (by omega) (Ev.neg Bool.false_ne_true hE))
      · simp only [if_neg d] at hE
        exact Ev.neg d (Ev.pos (by omega) (Ev.neg Bool.false_ne_true hE))
include hl hnum in
theorem il0_good (id : ByteArray) (N : Nat) (hN : N ≤ 4096) (c : Nat) : ∀ (i n : Nat) (vals : List S66), i + c = N → n ≤ b.length → vals.length + c ≤ 4096 →
    ∃ r : ByteArray × List S66 × Int × Bool, Good ((rvals b num c n vals).bind fun t => some (id, t.1, t.2)) r ∧ Ev (fun k => impl_docReader_doc.l0 k (N : Int) (i : Int) b (n : Int) false id vals) r := by
  induction c with
  | zero =>
    intro i n vals hi hn hv
    refine ⟨(id, vals, (n : Int), false), rfl, ?_⟩
    refine Ev.step (fun k => by rw [impl_docReader_doc.l0]) ?_
    exact Ev.neg (by omega) (Ev.now _)
  | succ c ih =>
    intro i n vals hi hn hv
    have hv' : vals.length < 2199023255552 := by omega
    suffices hs : ∃ r : ByteArray × List S66 × Int × Bool, Good ((rvals b num (c + 1) n vals).bind fun t => some (id, t.1, t.2)) r ∧ Ev (fun k => (impl_docReader_text.f k b (n : Int) false).bind fun bt197 => ((impl_docReader_int.f k b bt197.2.1 bt197.2.2 4096).bind fun bt201 => (impl_docReader_doc.l1 k (N : Int) (i : Int) bt201.1 0 b bt201.2.1 bt201.2.2 id vals bt197.1 ([] : List ByteArray)))) r by
      obtain ⟨r, hg, hr⟩ := hs
      refine ⟨r, hg, ?_⟩
      refine Ev.step (fun k => by rw [impl_docReader_doc.l0]) ?_
      exact Ev.pos (by omega) hr
    rw [rvals]
    unfold rval
    cases h1 : rtext b num n with
    | none =>
      obtain ⟨a, ha, ht⟩ := itext_none hl hnum hn h1
      exact ⟨_, (by rfl), Ev.bind ht (Ev.bind (iint_bad _ _) (il1_bad _ _ _ _ _ _ hv'))⟩
    | some p =>
      obtain ⟨f, m1⟩ := p
      have l1 := rtext_le hnum hn h1
      have ht := itext_some hl hnum hn h1
      simp only [Option.bind_some]
      cases h2 : rcount num m1 with
      | none =>
        have hc := icount_none hnum l1 h2
        exact ⟨_, (by rfl), Ev.bind ht (Ev.bind hc (il1_bad _ _ _ _ _ _ hv'))⟩
      | some p =>
        obtain ⟨c1, m2⟩ := p
        have l2 := rcount_le hnum l1 h2
        have hc := icount_some hnum l1 h2
        simp only [Option.bind_some]
        cases h3 : rtexts b num c1 m2 [] with
        | none =>
          obtain ⟨r, hr, hE⟩ := il1_none hl hnum (N : Int) (i : Int) id vals f c1 l2.2 c1 0 m2 [] (by omega) l2.1 (by simp only [List.length_nil]; omega) h3
          exact ⟨r, hr, Ev.bind ht (Ev.bind hc hE)⟩
        | some p =>
          obtain ⟨ts, m3⟩ := p
          have l3 := rtexts_le hnum _ _ _ _ _ l2.1 h3
          have H := fun r => il1_some hl hnum (N : Int) (i : Int) id vals f c1 l2.2 r c1 0 m2 [] ts m3 (by omega) l2.1 (by simp only [List.length_nil]; omega) h3
          simp only [Option.bind_some]
          suffices hs : ∃ r : ByteArray × List S66 × Int × Bool, Good (((((rcount num m3).bind fun q2 => (rnums num q2.1 q2.2 []).bind fun u => some ((⟨f, ts, u.1⟩ : S66), u.2)).bind fun p => rvals b num c p.2 (vals ++ [p.1])).bind fun t => some (id, t.1, t.2))) r ∧ Ev (fun k => (impl_docReader_int.f k b (m3 : Int) false 4096).bind fun bt210 => (impl_docReader_doc.l2 k (N : Int) (i : Int) bt210.1 0 b bt210.2.1 bt210.2.2 id vals f ts ([] : List Int))) r by
            obtain ⟨r, hg, hr⟩ := hs
            exact ⟨r, hg, Ev.bind ht (Ev.bind hc (H r hr))⟩
          cases h4 : rcount num m3 with
          | none =>
            have hc2 := icount_none hnum l3.1 h4
            exact ⟨_, (by rfl), Ev.bind hc2 (il2_bad _ _ _ _ _ _ _ hv')⟩
          | some p =>
            obtain ⟨c2, m4⟩ := p
            have l4 := rcount_le hnum l3.1 h4
            have hc2 := icount_some hnum l3.1 h4
            simp only [Option.bind_some]
            cases h5 : rnums num c2 m4 [] with
            | none =>
              obtain ⟨r, hr, hE⟩ := il2_none hnum (N : Int) (i : Int) id vals f ts c2 l4.2 c2 0 m4 [] (by omega) l4.1 (by simp only [List.length_nil]; omega) h5
              exact ⟨r, hr, Ev.bind hc2 hE⟩
            | some p =>
              obtain ⟨ns, m5⟩ := p
              have l5 := rnums_le hnum _ _ _ _ _ l4.1 h5
              obtain ⟨r, hg, hE⟩ := ih (i + 1) m5 (vals ++ [⟨f, ts, ns⟩]) (by omega) l5.1 (by rw [List.length_append, List.length_singleton]; omega)
              rw [← wnD i (by omega)] at hE
              exact ⟨r, hg, Ev.bind hc2 (il2_some hnum (N : Int) (i : Int) id vals f ts hv' c2 l4.2 r c2 0 m4 [] ns m5 (by omega) l4.1 (by simp only [List.length_nil]; omega) h5 hE)⟩
include hl hnum in
theorem idoc_good : ∃ r : ByteArray × List S66 × Int × Bool, Good (rdoc b num) r ∧ Ev (fun k => impl_docReader_doc.f k b 0 false) r := by
  unfold rdoc impl_docReader_doc.f
  have l0bad : ∀ (a : Int) (id : ByteArray), Ev (fun k => impl_docReader_doc.l0 k 0 0 b a true id []) (id, [], a, true) := fun a id => by
    refine Ev.step (fun k => by rw [impl_docReader_doc.l0]) ?_
    exact Ev.neg (by omega) (Ev.now _)
  cases h1 : rtext b num 0 with
  | none =>
    obtain ⟨a, ha, ht⟩ := itext_none hl hnum (Nat.zero_le _) h1
    exact ⟨_, (by rfl), Ev.bind ht (Ev.bind (iint_bad _ _) (l0bad _ _))⟩
  | some p =>
    obtain ⟨id, m1⟩ := p
    have l1 := rtext_le hnum (Nat.zero_le _) h1
    have ht := itext_some hl hnum (Nat.zero_le _) h1
    simp only [Option.bind_some]
    cases h2 : rcount num m1 with
    | none =>
      have hc := icount_none hnum l1 h2
      exact ⟨_, (by rfl), Ev.bind ht (Ev.bind hc (l0bad _ _))⟩
    | some p =>
      obtain ⟨c, m2⟩ := p
      have l2 := rcount_le hnum l1 h2
      have hc := icount_some hnum l1 h2
      obtain ⟨r, hg, hE⟩ := il0_good hl hnum id c l2.2 c 0 m2 [] (by omega) l2.1 (by simp only [List.length_nil]; omega)
      exact ⟨r, hg, Ev.bind ht (Ev.bind hc hE)⟩
end
theorem read_both (b : List Int) (hl : b.length ≤ 1048576) (hb : ∀ x ∈ b, 0 ≤ x ∧ x ≤ 255) : ∃ (id : ByteArray) (vs : List S66) (e : Int), vs.length ≤ 1048576 ∧ (∀ v ∈ vs, okV v) ∧ Ev (fun k => spec_ReadDoc.f k b) (id, vs, e) ∧ Ev (fun k => impl_ReadDoc.f k b) (id, vs, e) := by
  obtain ⟨num, hnum⟩ := told_ex b hl hb
  obtain ⟨r1, g1, e1⟩ := sdoc_good hl hnum
  obtain ⟨r2, g2, e2⟩ := idoc_good hl hnum
  unfold spec_ReadDoc.f impl_ReadDoc.f
  cases h : rdoc b num with
  | none =>
    rw [h] at g1 g2
    exact ⟨_, [], 15, (by simp), (by simp), Ev.neg (by omega) (Ev.bind e1 (Ev.pos g1 (Ev.now _))), Ev.neg (by omega) (Ev.bind e2 (Ev.pos g2 (Ev.now _)))⟩
  | some p =>
    obtain ⟨id, vs, m⟩ := p
    rw [h] at g1 g2
    obtain rfl : r1 = (id, vs, (m : Int), false) := g1
    obtain rfl : r2 = (id, vs, (m : Int), false) := g2
    unfold rdoc at h
    obtain ⟨⟨f, m1⟩, h1, h⟩ := Option.bind_eq_some_iff.1 h
    obtain ⟨⟨c, m2⟩, h2, h⟩ := Option.bind_eq_some_iff.1 h
    obtain ⟨⟨vs', m3⟩, h3, h⟩ := Option.bind_eq_some_iff.1 h
    simp only [Option.some.injEq, Prod.mk.injEq] at h
    obtain ⟨rfl, rfl, rfl⟩ := h
    have l1 := rtext_le hnum (Nat.zero_le _) h1
    have l2 := rcount_le hnum l1 h2
    have l3 := rvals_le hnum _ _ _ _ _ l2.1 (by simp) h3
    simp only [List.length_nil] at l3
    by_cases c : (m3 : Int) = (b.length : Int)
    · exact ⟨f, vs', 0, by omega, l3.2.2, Ev.neg (by omega) (Ev.bind e1 (Ev.neg Bool.false_ne_true (Ev.pos c (Ev.now _)))), Ev.neg (by omega) (Ev.bind e2 (Ev.neg Bool.false_ne_true (Ev.pos c (Ev.now _))))⟩
    · exact ⟨_, [], 15, (by simp), (by simp), Ev.neg (by omega) (Ev.bind e1 (Ev.neg Bool.false_ne_true (Ev.neg c (Ev.now _)))), Ev.neg (by omega) (Ev.bind e2 (Ev.neg Bool.false_ne_true (Ev.neg c (Ev.now _))))⟩

theorem FnExactReadDoc : laws_FnExactReadDoc.Pure := by
  intro l _ hn hb0
  refine Ev.rounds (g := fun k => laws_FnExactReadDoc.f k l) ?_
  unfold laws_FnExactReadDoc.f
  by_cases h : (l.length : Int) > 1048576
  · exact Ev.pos h (Ev.now _)
  · refine Ev.neg h ?_
    have hb : ∀ x ∈ l, 0 ≤ x ∧ x ≤ 255 := fun x hx => wf8 (hb0 x hx)
    obtain ⟨id, vs, e, hv, ho, hs, hi⟩ := read_both l (by omega) hb
    have hto := toB_ev l (by omega)
    have heq := eqDoc_ev id vs hv ho
    have qB := eqB_ev l (by omega)
    obtain ⟨ys, hmb⟩ := markB_ev l (by omega)
    obtain ⟨r, zs, hm, hh⟩ := markDocH id vs hv ho
    refine Ev.bind hto (Ev.bind hs (Ev.bind hto (Ev.bind hi (Ev.bind heq (Ev.pos rfl ?_)))))
    simp only [bne_self_eq_false]
    refine Ev.step (fun k => by rw [laws_FnExactReadDoc.j0]) ?_
    refine Ev.neg Bool.false_ne_true (Ev.bind hto (Ev.bind qB (Ev.pos rfl (Ev.bind hmb (Ev.neg (by dsimp only; omega) (Ev.bind heq (Ev.pos rfl ?_)))))))
    simp only [bne_self_eq_false]
    refine Ev.step (fun k => by rw [laws_FnExactReadDoc.j1]) ?_
    refine Ev.neg Bool.false_ne_true (Ev.bind hm (Ev.bind hh (Ev.neg (by omega) (Ev.pos rfl (Ev.bind hto (Ev.bind hi (Ev.bind heq (Ev.pos rfl ?_))))))))
    simp only [bne_self_eq_false]
    refine Ev.step (fun k => by rw [laws_FnExactReadDoc.j2]) ?_
    exact Ev.neg Bool.false_ne_true (Ev.bind hh (Ev.neg (by omega) (Ev.pos rfl (Ev.now _))))

end Go.Proofs.Ytnpdmleglcbobaa.Pure
