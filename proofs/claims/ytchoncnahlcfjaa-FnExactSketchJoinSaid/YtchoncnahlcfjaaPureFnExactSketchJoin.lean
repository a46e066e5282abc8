/- Whatever the two sketches, the program's SketchJoin tells what the reference's SketchJoin tells, writes into no argument, and its answer's memory is its own: the law answers true. No condition. -/
import Derived.Test.YtchoncnahlcfjaaXFnExactSketchJoinx4
import Derived.Test.YtchoncnahlcfjaaKit
import Derived.Lib.ItoaNum
set_option linter.unusedSimpArgs false
set_option linter.unusedVariables false
namespace Go.Proofs.Ytchoncnahlcfjaa.Pure
open Go.RowKit Go.Proofs.Ytchoncnahlcfjaa.XFnExactSketchJoin Go.Proofs.YtchoncnahlcfjaaW.PrintWords Go.Proofs.YtchoncnahlcfjaaW.PrintLast Go.Proofs.YtchoncnahlcfjaaW.PrintMore Go.Proofs.Ytchoncnahlcfjaa.Kit

theorem Ev.steps {α : Type} {g f : Nat → Option α} {r : α} (c : Nat) (h : ∀ k, g (k + c) = f k) (k : Ev f r) : Ev g r := by
  obtain ⟨K, hK⟩ := k
  refine ⟨K + c, fun n hn => ?_⟩
  have := h (n - c)
  rw [Nat.sub_add_cancel (by omega)] at this
  rw [this]; exact hK _ (by omega)

theorem Ev.pos {α : Type} {c : Prop} [Decidable c] {f g : Nat → Option α} {r : α} (h : c) (k : Ev f r) : Ev (fun n => if c then f n else g n) r := Ev.congr (fun n => if_pos h) k
theorem Ev.neg {α : Type} {c : Prop} [Decidable c] {f g : Nat → Option α} {r : α} (h : ¬ c) (k : Ev g r) : Ev (fun n => if c then f n else g n) r := Ev.congr (fun n => if_neg h) k
theorem Ev.ofEq {α : Type} {x : Option α} {r : α} (h : x = some r) : Ev (fun _ => x) r := ⟨0, fun _ _ => h⟩
theorem Ev.from {α : Type} {g : Nat → Option α} {r : α} (K : Nat) (h : ∀ k, K < k → g k = some r) : Ev g r := ⟨K + 1, fun k hk => h k (by omega)⟩

theorem n0 : ((0 : Nat) : Int) = 0 := rfl
def slotsFrom (l : List Int) : Nat → Nat → Bool
  | 0, _ => true
  | d + 1, i => !(decide (l.getD i 0 < 0) || decide (25 < l.getD i 0)) && slotsFrom l d (i + 1)
theorem slots_any (l : List Int) (d : Nat) : ∀ i : Nat, i + d = l.length → slotsFrom l d i = !((l.drop i).any fun x => (decide (x < 0) || decide (25 < x))) := by
  induction d with
  | zero =>
    intro i hi
    rw [List.drop_eq_nil_of_le (by omega)]; rfl
  | succ d ih =>
    intro i hi
    have e : l.getD i 0 = l[i] := by simp [List.getD_eq_getElem?_getD, List.getElem?_eq_getElem (show i < l.length by omega)]
    rw [slotsFrom, ih (i + 1) (by omega), List.drop_eq_getElem_cons (show i < l.length by omega), List.any_cons, e]
    generalize (decide (l[i] < 0) || decide (25 < l[i])) = b
    cases b <;> simp
theorem spec_slots (l : List Int) (hl : l.length = 256) (d : Nat) : ∀ i : Nat, i + d = l.length → Ev (fun k => spec_SketchOK.l0 k (i : Int) l) (slotsFrom l d i) := by
  induction d with
  | zero =>
    intro i hi
    refine Ev.step (fun k => ?_) (Ev.now _)
    rw [spec_SketchOK.l0, if_neg (by omega), slotsFrom]
  | succ d ih =>
    intro i hi
    have c0 : (i : Int) < 256 := by omega
    have c1 : (i : Int) < (l.length : Int) := by omega
    have e1 : Aside0 (wrap64 ((i : Int) + 1) = ((i + 1 : Nat) : Int)) := ⟨by rw [w64 (by omega) (by omega)]; omega⟩
    rw [slotsFrom]
    by_cases a1 : l.getD i 0 < 0
    · rw [decide_eq_true a1, Bool.true_or, Bool.not_true, Bool.false_and]
      refine Ev.step (fun k => ?_) (Ev.now _)
      rw [spec_SketchOK.l0, if_pos c0, if_pos (Int.natCast_nonneg _), if_pos c1, rd_nat, if_pos a1]
    · by_cases a2 : 25 < l.getD i 0
      · rw [decide_eq_true a2, Bool.or_true, Bool.not_true, Bool.false_and]
        refine Ev.step (fun k => ?_) (Ev.now _)
        rw [spec_SketchOK.l0, if_pos c0, if_pos (Int.natCast_nonneg _), if_pos c1, rd_nat, if_neg a1, if_pos a2]
      · rw [decide_eq_false a1, decide_eq_false a2, Bool.or_false, Bool.not_false, Bool.true_and]
        refine Ev.step (fun k => ?_) (ih (i + 1) (by omega))
        rw [spec_SketchOK.l0, if_pos c0, if_pos (Int.natCast_nonneg _), if_pos c1, rd_nat, if_neg a1, if_neg a2, e1.out]
theorem spec_SketchOK_eq (l : List Int) : ∃ r, impl_SketchOK.f l = some r ∧ Ev (fun k => spec_SketchOK.f k l) r := by
  by_cases h : (l.length : Int) = 256
  · have hl : l.length = 256 := by omega
    refine ⟨(!(l.any fun x => (decide (x < 0) || decide (25 < x)))), ?_, ?_⟩
    · unfold impl_SketchOK.f; rw [if_pos h]
    · have h1 := spec_slots l hl l.length 0 (by omega)
      rw [slots_any l l.length 0 (by omega), List.drop_zero, n0] at h1
      refine Ev.congr (fun k => ?_) h1
      unfold spec_SketchOK.f; rw [if_pos h]
  · refine ⟨false, ?_, ?_⟩
    · unfold impl_SketchOK.f; rw [if_neg h]
    · refine Ev.congr (f := fun _ => some false) (fun k => ?_) (Ev.now _)
      unfold spec_SketchOK.f; rw [if_neg h]
theorem toI (xs : List Int) (hn : xs.length ≤ 35184372088832) (k : Nat) (hk : xs.length < k) : laws_toIntS.f k xs = some xs := by
  unfold laws_toIntS.f
  rw [if_pos (by omega), if_pos (by omega), Int.toNat_natCast]
  exact toS_all laws_toIntS.l0 (fun _ _ _ _ => rfl) xs (by omega) k hk
theorem eqI (xs : List Int) (hn : xs.length ≤ 140737488351232) (k : Nat) (hk : xs.length < k) : laws_eqIntS.f k xs xs = some true := by
  unfold laws_eqIntS.f
  rw [if_pos rfl]
  exact eqS_all laws_eqIntS.l0 (fun _ _ _ _ => rfl) xs (by omega) k hk
/-- The law's own measure: a longer slice is let by. -/
theorem sz_big (l : List Int) (hm : l.length ≤ 9223372036854775807) : (l.length > 1048576 → laws_szSketch.f l 1048576 = some (-1)) ∧ (l.length ≤ 1048576 → laws_szSketch.f l 1048576 = some (1048576 - (l.length : Int))) := by
  unfold laws_szSketch.f laws_szIntS.f
  have e : Aside0 (wrap64 (1048576 - (l.length : Int)) = 1048576 - (l.length : Int)) := ⟨w64 (by omega) (by omega)⟩
  constructor
  · intro h
    have h0 : 1048576 - (l.length : Int) < 0 := by omega
    rw [e.out, if_pos h0]; rfl
  · intro h
    have h0 : ¬ (1048576 - (l.length : Int) < 0) := by omega
    rw [e.out, if_neg h0, Option.bind_some, if_neg h0]

def jAt (a b : List Int) (i : Nat) : Int := mx (a.getD i 0) (b.getD i 0)
def jOf (a b : List Int) : List Int := (List.range 256).map (jAt a b)
theorem jOf_length (a b : List Int) : (jOf a b).length = 256 := by simp [jOf]
theorem jOf_get (a b : List Int) (i : Nat) (h : i < 256) : (jOf a b).getD i 0 = jAt a b i := by
  simp [jOf, List.getD_eq_getElem?_getD, List.getElem?_map, List.getElem?_range h]
theorem getD_app_lt (c : List Int) (x : Int) (j : Nat) (h : j < c.length) : (c ++ [x]).getD j 0 = c.getD j 0 := by
  simp [List.getD_eq_getElem?_getD, List.getElem?_append_left h]
theorem getD_app_eq (c : List Int) (x : Int) : (c ++ [x]).getD c.length 0 = x := by
  simp [List.getD_eq_getElem?_getD]
theorem spec_join (a b : List Int) (ha : a.length = 256) (hb : b.length = 256) (d : Nat) : ∀ (i : Nat) (c : List Int), i + d = 256 → c.length = i → (∀ j, j < i → c.getD j 0 = jAt a b j) →
    Ev (fun k => spec_SketchJoin.l0 k (i : Int) a b c) (jOf a b, 0) := by
  induction d with
  | zero =>
    intro i c hi hc hj
    have e : c = jOf a b := get_ext (by rw [jOf_length]; omega) (fun j h => by rw [jOf_length] at h; rw [jOf_get a b j h]; exact hj j (by omega))
    refine Ev.step (fun k => ?_) (Ev.now _)
    rw [spec_SketchJoin.l0, if_neg (by omega), e]
  | succ d ih =>
    intro i c hi hc hj
    have c0 : (i : Int) < 256 := by omega
    have c1 : (i : Int) < (a.length : Int) := by omega
    have c2 : (i : Int) < (b.length : Int) := by omega
    have c3 : c.length < 17592186044416 := by omega
    have e1 : Aside0 (wrap64 ((i : Int) + 1) = ((i + 1 : Nat) : Int)) := ⟨by rw [w64 (by omega) (by omega)]; omega⟩
    refine Ev.step (fun k => ?_) (ih (i + 1) (c ++ [jAt a b i]) (by omega) (by simp [hc]) (fun j h => ?_))
    · rw [spec_SketchJoin.l0, if_pos c0, if_pos (Int.natCast_nonneg _), if_pos c1, if_pos c2, if_pos c3, e1.out, rd_nat, rd_nat, jAt]
    · by_cases h' : j < i
      · rw [getD_app_lt c _ j (by omega)]; exact hj j h'
      · obtain rfl : j = c.length := by omega
        rw [getD_app_eq, hc]
theorem impl_join (a b : List Int) (ha : a.length = 256) (hb : b.length = 256) (d : Nat) : ∀ (i : Nat) (c : List Int), i + d = 256 → c.length = 256 → (∀ j, j < i → c.getD j 0 = jAt a b j) → (∀ j, i ≤ j → c.getD j 0 = a.getD j 0) →
    Ev (fun k => impl_SketchJoin.l0 k b (b.length : Int) (i : Int) c) (jOf a b, 0) := by
  induction d with
  | zero =>
    intro i c hi hc hj hk
    have e : c = jOf a b := get_ext (by rw [jOf_length]; omega) (fun j h => by rw [jOf_length] at h; rw [jOf_get a b j h]; exact hj j (by omega))
    refine Ev.step (fun k => ?_) (Ev.now _)
    rw [impl_SketchJoin.l0, if_neg (by omega), e]
  | succ d ih =>
    intro i c hi hc hj hk
    have c1 : (i : Int) < (b.length : Int) := by omega
    have c2 : (i : Int) < (c.length : Int) := by omega
    have e1 : Aside0 (wrap64 ((i : Int) + 1) = ((i + 1 : Nat) : Int)) := ⟨by rw [w64 (by omega) (by omega)]; omega⟩
    refine Ev.step (fun k => ?_) (ih (i + 1) (c.set i (jAt a b i)) (by omega) (by simp [hc]) (fun j h => ?_) (fun j h => ?_))
    · rw [impl_SketchJoin.l0, if_pos c1, if_pos (Int.natCast_nonneg _), if_pos c1, if_pos c2, e1.out, rd_nat, rd_nat, Int.toNat_natCast, hk i (by omega), jAt]
    · by_cases h' : j < i
      · rw [Kit.getD_set_ne c i j _ (by omega)]; exact hj j h'
      · obtain rfl : j = i := by omega
        rw [Kit.getD_set_eq c j _ (by omega)]
    · rw [Kit.getD_set_ne c i j _ (by omega)]; exact hk j (by omega)
theorem ok_len (l : List Int) (h : impl_SketchOK.f l = some true) : l.length = 256 := by
  unfold impl_SketchOK.f at h
  by_cases hl : (l.length : Int) = 256
  · omega
  · rw [if_neg hl] at h; cases h
theorem join_eq (a b : List Int) : ∃ r, Ev (fun k => spec_SketchJoin.f k a b) r ∧ Ev (fun k => impl_SketchJoin.f k a b) r ∧ r.1.length ≤ 256 := by
  obtain ⟨x, ia, Ka, sa⟩ := spec_SketchOK_eq a
  obtain ⟨y, ib, Kb, sb⟩ := spec_SketchOK_eq b
  have sa' : ∀ k, Ka ≤ k → spec_SketchOK.f k a = some x := sa
  have sb' : ∀ k, Kb ≤ k → spec_SketchOK.f k b = some y := sb
  have bad1 : ∀ k, spec_SketchJoin.j0 (k + 1) true a b = some (([] : List Int), 1) := fun k => by rw [spec_SketchJoin.j0, if_pos rfl]
  have bad2 : ∀ k, impl_SketchJoin.j0 (k + 1) true a b = some (([] : List Int), 1) := fun k => by rw [impl_SketchJoin.j0, if_pos rfl]
  cases x with
  | false =>
    refine ⟨([], 1), ⟨Ka + 1, fun k hk => ?_⟩, ⟨1, fun k hk => ?_⟩, by simp⟩
    · obtain ⟨m, rfl⟩ : ∃ m, k = m + 1 := ⟨k - 1, by omega⟩
      show spec_SketchJoin.f (m + 1) a b = _
      unfold spec_SketchJoin.f
      rw [sa' _ (by omega), Option.bind_some, if_neg Bool.false_ne_true, bad1]
    · obtain ⟨m, rfl⟩ : ∃ m, k = m + 1 := ⟨k - 1, by omega⟩
      show impl_SketchJoin.f (m + 1) a b = _
      unfold impl_SketchJoin.f
      rw [ia, Option.bind_some, if_neg Bool.false_ne_true, bad2]
  | true =>
    cases y with
    | false =>
      refine ⟨([], 1), ⟨Ka + Kb + 1, fun k hk => ?_⟩, ⟨1, fun k hk => ?_⟩, by simp⟩
      · obtain ⟨m, rfl⟩ : ∃ m, k = m + 1 := ⟨k - 1, by omega⟩
        show spec_SketchJoin.f (m + 1) a b = _
        unfold spec_SketchJoin.f
        rw [sa' _ (by omega), Option.bind_some, if_pos rfl, sb' _ (by omega), Option.bind_some, Bool.not_false, bad1]
      · obtain ⟨m, rfl⟩ : ∃ m, k = m + 1 := ⟨k - 1, by omega⟩
        show impl_SketchJoin.f (m + 1) a b = _
        unfold impl_SketchJoin.f
        rw [ia, Option.bind_some, if_pos rfl, ib, Option.bind_some, Bool.not_false, bad2]
    | true =>
      have la := ok_len a ia
      have lb := ok_len b ib
      obtain ⟨K1, h1⟩ := spec_join a b la lb 256 0 [] (by omega) rfl (fun j h => absurd h (by omega))
      obtain ⟨K2, h2⟩ := impl_join a b la lb 256 0 a (by omega) la (fun j h => absurd h (by omega)) (fun j _ => rfl)
      have h1' : ∀ k, K1 ≤ k → spec_SketchJoin.l0 k 0 a b [] = some (jOf a b, 0) := h1
      have h2' : ∀ k, K2 ≤ k → impl_SketchJoin.l0 k b (b.length : Int) 0 a = some (jOf a b, 0) := h2
      refine ⟨(jOf a b, 0), ⟨Ka + Kb + K1 + 1, fun k hk => ?_⟩, ⟨K2 + 1, fun k hk => ?_⟩, Nat.le_of_eq (jOf_length a b)⟩
      · obtain ⟨m, rfl⟩ : ∃ m, k = m + 1 := ⟨k - 1, by omega⟩
        show spec_SketchJoin.f (m + 1) a b = _
        unfold spec_SketchJoin.f
        rw [sa' _ (by omega), Option.bind_some, if_pos rfl, sb' _ (by omega), Option.bind_some, Bool.not_true, spec_SketchJoin.j0, if_neg Bool.false_ne_true, h1' _ (by omega)]
      · obtain ⟨m, rfl⟩ : ∃ m, k = m + 1 := ⟨k - 1, by omega⟩
        show impl_SketchJoin.f (m + 1) a b = _
        unfold impl_SketchJoin.f
        rw [ia, Option.bind_some, if_pos rfl, ib, Option.bind_some, Bool.not_true, impl_SketchJoin.j0, if_neg Bool.false_ne_true]
        unfold slices_Clone_int_int.f
        rw [if_pos (by omega), Option.bind_some, h2' _ (by omega)]

theorem sz_at (l : List Int) (a : Int) (h0 : 0 ≤ a) (h1 : a ≤ 1048576) (hm : l.length ≤ 9223372036854775807) : laws_szSketch.f l a = some (if (l.length : Int) ≤ a then a - (l.length : Int) else -1) := by
  unfold laws_szSketch.f laws_szIntS.f
  have e : Aside0 (wrap64 (a - (l.length : Int)) = a - (l.length : Int)) := ⟨w64 (by omega) (by omega)⟩
  rw [e.out]
  by_cases h : (l.length : Int) ≤ a
  · have hn : ¬ (a - (l.length : Int) < 0) := by omega
    rw [if_neg hn, Option.bind_some, if_neg hn, if_pos h]
  · have hn : a - (l.length : Int) < 0 := by omega
    rw [if_pos hn, if_neg h]; rfl
theorem toE (l : List Int) (h : l.length ≤ 1048576) : Ev (fun k => laws_toSketch.f k l) l :=
  Ev.congr (f := fun k => (laws_toIntS.f k l).bind fun t => some t) (fun k => rfl) (Ev.bind (Ev.from l.length (fun k hk => toI l (by omega) k hk)) (Ev.now _))
theorem eqE (l : List Int) (h : l.length ≤ 1048576) : Ev (fun k => laws_eqSketch.f k l l) true :=
  Ev.congr (f := fun k => (laws_eqIntS.f k l l).bind fun t => if t = true then some true else some false) (fun k => rfl) (Ev.bind (Ev.from l.length (fun k hk => eqI l (by omega) k hk)) (Ev.pos rfl (Ev.now _)))
theorem marksE (xs : List Int) (a : Nat) (h : xs.length ≤ 1048576) (ha : a ≤ 10000000) : ∃ ys : List Int, ys.length = xs.length ∧ Ev (fun k => laws_markSketch.f k xs (a : Int)) (((a + xs.length : Nat) : Int), ys) ∧ Ev (fun k => laws_heldSketch.f k ys (a : Int)) ((a + xs.length : Nat) : Int) := by
  obtain ⟨ys, h1, h2, h3⟩ := marks (fun x => x) laws_markIntS.l0 laws_heldIntS.l0 (fun _ _ _ _ => rfl) (fun _ _ _ _ => rfl) xs a (by omega)
  refine ⟨ys, h1, ?_, ?_⟩
  · exact Ev.congr (f := fun k => (laws_markIntS.f k xs (a : Int)).bind fun t => some (t.1, t.2)) (fun k => rfl) (Ev.bind (Ev.from xs.length h2) (Ev.now _))
  · refine Ev.congr (f := fun k => (laws_heldIntS.f k ys (a : Int)).bind fun t => if t < 0 then some (-1) else some t) (fun k => rfl) (Ev.bind (Ev.from xs.length h3) ?_)
    exact Ev.neg (by omega) (Ev.now _)

theorem FnExactSketchJoin (a b : List Int) (ha : a.length ≤ 9223372036854775807) (hb : b.length ≤ 9223372036854775807) : ∃ k, laws_FnExactSketchJoin.f k a b = some true := by
  refine Ev.rounds (g := fun k => laws_FnExactSketchJoin.f k a b) ?_
  unfold laws_FnExactSketchJoin.f
  refine Ev.bind (Ev.ofEq (sz_at a 1048576 (by omega) (by omega) ha)) ?_
  by_cases h1 : (a.length : Int) ≤ 1048576
  · rw [if_pos h1]
    refine Ev.neg (by omega) ?_
    refine Ev.bind (Ev.ofEq (sz_at b _ (by omega) (by omega) hb)) ?_
    by_cases h2 : (b.length : Int) ≤ 1048576 - (a.length : Int)
    · rw [if_pos h2]
      refine Ev.neg (by omega) ?_
      obtain ⟨r, hs, hi, hr⟩ := join_eq a b
      obtain ⟨rs, e⟩ := r
      simp only at hr
      obtain ⟨ys1, hy1, hm1, _⟩ := marksE a 1 (by omega) (by omega)
      obtain ⟨ys2, hy2, hm2, _⟩ := marksE b (1 + a.length) (by omega) (by omega)
      obtain ⟨ys3, hy3, hm3, hh3⟩ := marksE rs 1 (by omega) (by omega)
      refine Ev.bind (toE a (by omega)) ?_
      refine Ev.bind (toE b (by omega)) ?_
      refine Ev.bind hs ?_
      refine Ev.bind (toE a (by omega)) ?_
      refine Ev.bind (toE b (by omega)) ?_
      refine Ev.bind hi ?_
      refine Ev.bind (eqE rs (by omega)) ?_
      refine Ev.pos rfl ?_
      simp only [bne_self_eq_false]
      refine Ev.step (fun k => by rw [laws_FnExactSketchJoin.j0]) ?_
      refine Ev.neg Bool.false_ne_true ?_
      refine Ev.bind (toE a (by omega)) ?_
      refine Ev.bind (eqE a (by omega)) ?_
      refine Ev.pos rfl ?_
      refine Ev.bind (toE b (by omega)) ?_
      refine Ev.bind (eqE b (by omega)) ?_
      refine Ev.pos rfl ?_
      refine Ev.bind hm1 ?_
      refine Ev.bind hm2 ?_
      refine Ev.neg (by simp only; omega) ?_
      refine Ev.bind (eqE rs (by omega)) ?_
      refine Ev.pos rfl ?_
      refine Ev.step (fun k => by rw [laws_FnExactSketchJoin.j1]) ?_
      refine Ev.neg (by simp) ?_
      refine Ev.bind hm3 ?_
      refine Ev.bind hh3 ?_
      refine Ev.neg (by omega) ?_
      refine Ev.pos rfl ?_
      refine Ev.bind (toE a (by omega)) ?_
      refine Ev.bind (toE b (by omega)) ?_
      refine Ev.bind hi ?_
      refine Ev.bind (eqE rs (by omega)) ?_
      refine Ev.pos rfl ?_
      refine Ev.step (fun k => by rw [laws_FnExactSketchJoin.j2]) ?_
      refine Ev.neg (by simp) ?_
      refine Ev.bind hh3 ?_
      refine Ev.neg (by omega) ?_
      exact Ev.pos rfl (Ev.now _)
    · rw [if_neg h2]
      exact Ev.pos (by omega) (Ev.now _)
  · rw [if_neg h1]
    exact Ev.pos (by omega) (Ev.now _)

end Go.Proofs.Ytchoncnahlcfjaa.Pure
