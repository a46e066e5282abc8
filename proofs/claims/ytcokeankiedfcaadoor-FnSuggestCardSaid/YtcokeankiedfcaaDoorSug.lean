/- impl.Suggest: what its contract is made of: the set of the texts seen, the order of the near words, the comparing closure, the walk of every road. -/
import Derived.Maps.OwnSet
import Derived.Maps.Views
import Derived.Carry
import Derived.StringKeys
import Derived.Lib.Strings
import Derived.Shelf.SlSortCmp.NoneTotal
import Derived.Lib.Bytealg
import Derived.Laws.Strings
import Derived.Test.YtcokeankiedfcaaDoorProg
import Derived.WalkKit
import Derived.Tactics
import Derived.KernelRfl
import Derived.Sort.Grow
import Derived.Deep.Draws
import Derived.Test.YtcokeankiedfcaaDoorWWords
import Derived.Deep.LoopGhost
import Derived.Lib.Hide
import Derived.Test.YtcokeankiedfcaaDoorWMore
import Derived.Test.YtcokeankiedfcaaDoorWLast
import Derived.OwnWalk
import Derived.Maps.OwnOps
import Derived.Test.YtcokeankiedfcaaDoorVShelf
import Derived.Test.YtcokeankiedfcaaDoorShelf
namespace Go.Proofs.YtcokeankiedfcaaDoor.Sug
set_option linter.unusedVariables false
/-! ### SugSeen -/
section
open Go.RowKit Go.Maps Go.WideMaps
/-- the set of the texts seen: a map of the call's own. -/
def Seen (P : Program) (w : World) (b n : Nat) (seen : List ByteArray) : Prop :=
  ∃ D : DataW Unit, w.ownsMap P 9 (plainElem P 4) b n D ∧ IsMap D ∧ ∀ s : ByteArray, D.atKey (.string s.data.toList) (.lit (.bool false)) = .lit (.bool (seen.any (fun t => t.toList == s.toList)))
theorem Seen.made (P : Program) (w : World) : Seen P (w.alloc (.map #[] 0)) w.heap.size 0 [] :=
  ⟨.map [], World.ownsMap_made _ _ _ _, isMap_empty, fun _ => rfl⟩
theorem Seen.lt {P : Program} {w : World} {b n : Nat} {seen : List ByteArray} (h : Seen P w b n seen) : b < w.heap.size := by
  obtain ⟨D, h, _⟩ := h
  exact h.lt
theorem Seen.kept {P : Program} {w w' : World} {b n : Nat} {seen : List ByteArray} (h : Seen P w b n seen) (hk : w'.heap[b]? = w.heap[b]?) : Seen P w' b n seen := by
  obtain ⟨D, ⟨es, clock, hb, F, hs, hD⟩, h2, h3⟩ := h
  exact ⟨D, ⟨es, clock, hk.trans hb, F, hs, hD⟩, h2, h3⟩
theorem Seen.isMap {P : Program} {w : World} {b n : Nat} {seen : List ByteArray} (h : Seen P w b n seen) : ∃ es c, w.heap[b]? = some (.map es c) := by
  obtain ⟨D, ⟨es, clock, hb, F, hs, hD⟩, h2, h3⟩ := h
  exact ⟨es, clock, hb⟩
theorem Seen.look {P : Program} {w : World} {b n : Nat} {seen : List ByteArray} (u9 : P.underlying 9 = some .string) (u4 : P.underlying 4 = some .bool) {t : TypeId} (ut : P.underlying t = some (.map 9 4)) (hz : (zeroValue 4).run P w = .ok (.bool false) w)
    (h : Seen P w b n seen) (s : ByteArray) (hs : s.size ≤ maxLen) :
    (Instr.lookup t (.map (some b)) (.string s) false).run P w = .ok (.bool (seen.any (fun t => t.toList == s.toList))) w := by
  obtain ⟨D, ho, _, ha⟩ := h
  obtain ⟨v, ps, hrun, hv⟩ := ho.lookup (string_keyed u9) ut hz (plainElem_bool u4 false) (keyOf_string_mk u9 hs)
  rw [ha] at hv
  rw [hrun]
  congr 1
  unfold plainElem at hv
  rw [u4] at hv
  cases v <;> simp at hv
  rw [hv.1]
theorem Seen.store {P : Program} {w : World} {b n : Nat} {seen : List ByteArray} (u9 : P.underlying 9 = some .string) (u4 : P.underlying 4 = some .bool) {t : TypeId} (ut : P.underlying t = some (.map 9 4)) (hn : n < maxLen)
    (h : Seen P w b n seen) (s : ByteArray) (hs : s.size ≤ maxLen) :
    ∃ w', (Instr.mapUpdate t (.map (some b)) (.string s) (.bool true)).run P w = .ok () w' ∧ Seen P w' b (n + 1) (s :: seen) ∧ w.grownBy w' (some b) := by
  obtain ⟨D, ho, hm, ha⟩ := h
  obtain ⟨w', hrun, r1, r2⟩ := ho.update (string_keyed u9) ut hn (keyOf_string_mk u9 hs) (plainElem_bool u4 true)
  refine ⟨w', hrun, ⟨_, r1, hm.put _ _, fun x => ?_⟩, r2⟩
  by_cases hx : s.data.toList = x.data.toList
  · rw [← hx, atKey_put_same hm (by simp [WideAt.IsKeyLit])]
    have : (s.toList == x.toList) = true := by rw [Go.Lib.toList_data, Go.Lib.toList_data]; exact beq_iff_eq.2 hx
    simp [this]
  · rw [atKey_put_other (fun h => hx (Lit.string.inj h).symm), ha]
    have : (s.toList == x.toList) = false := by
      rw [Go.Lib.toList_data, Go.Lib.toList_data]; exact beq_eq_false_iff_ne.2 hx
    simp [this]
end
/-! ### SugSort -/
section
open Go.RowKit Go.Sort
def S_le (a b : ByteArray × Int) : Bool := decide (a.2 < b.2) || (decide (a.2 = b.2) && !(Op.bytesLess b.1.toList a.1.toList))
theorem cb_lt : ∀ x y : List UInt8, decide (Lib.compareBytes x y < 0) = Op.bytesLess x y
  | [], [] => rfl
  | [], _ :: _ => rfl
  | _ :: _, [] => rfl
  | a :: x, b :: y => by
    have ih := cb_lt x y
    unfold Lib.compareBytes Op.bytesLess
    by_cases h1 : a < b
    · simp [h1]
    · by_cases h2 : b < a
      · have h3 : ¬ a = b := fun h => by subst h; exact h1 h2
        simp [h1, h2, h3]
      · have h3 : a = b := UInt8.toNat_inj.1 (by have h5 : ¬ a.toNat < b.toNat := fun h => h1 (UInt8.lt_iff_toNat_lt.2 h); have h6 : ¬ b.toNat < a.toNat := fun h => h2 (UInt8.lt_iff_toNat_lt.2 h); omega)
        subst h3
        simp only [h1, if_false, decide_false, Bool.false_or, BEq.rfl, Bool.true_and]
        exact ih
theorem bl_tri : ∀ x y : List UInt8, (Op.bytesLess x y || x == y) = !(Op.bytesLess y x)
  | [], [] => rfl
  | [], _ :: _ => rfl
  | _ :: _, [] => rfl
  | a :: x, b :: y => by
    have ih := bl_tri x y
    simp only [Op.bytesLess, List.cons_beq_cons]
    by_cases h1 : a < b
    · have h2 : ¬ b < a := fun h => absurd (UInt8.lt_iff_toNat_lt.1 h) (by have := UInt8.lt_iff_toNat_lt.1 h1; omega)
      have h3 : ¬ b = a := fun h => by subst h; exact h2 h1
      simp [h1, h2, h3]
    · by_cases h2 : b < a
      · have h3 : ¬ a = b := fun h => by subst h; exact h1 h2
        simp [h1, h2, h3]
      · have h3 : a = b := UInt8.toNat_inj.1 (by have h5 : ¬ a.toNat < b.toNat := fun h => h1 (UInt8.lt_iff_toNat_lt.2 h); have h6 : ¬ b.toNat < a.toNat := fun h => h2 (UInt8.lt_iff_toNat_lt.2 h); omega)
        subst h3
        simp only [h1, decide_false, Bool.false_or, BEq.rfl, Bool.true_and]
        simpa using ih
theorem bl_le_trans : ∀ x y z : List UInt8, Op.bytesLess y x = false → Op.bytesLess z y = false → Op.bytesLess z x = false
  | [], _, z, _, _ => by cases z <;> rfl
  | _ :: _, [], _, h, _ => by cases h
  | _ :: _, _ :: _, [], _, h => by cases h
  | a :: x, b :: y, c :: z, h1, h2 => by
    simp only [Op.bytesLess, Bool.or_eq_false_iff, decide_eq_false_iff_not, Bool.and_eq_false_iff, beq_eq_false_iff_ne] at *
    have n1 : ¬ b.toNat < a.toNat := fun h => h1.1 (UInt8.lt_iff_toNat_lt.2 h)
    have n2 : ¬ c.toNat < b.toNat := fun h => h2.1 (UInt8.lt_iff_toNat_lt.2 h)
    refine ⟨fun h => by have := UInt8.lt_iff_toNat_lt.1 h; omega, ?_⟩
    by_cases e : c = a
    · right
      have e' := congrArg UInt8.toNat e
      have e1 : b = a := UInt8.toNat_inj.1 (by omega)
      have e2 : c = b := UInt8.toNat_inj.1 (by omega)
      exact bl_le_trans x y z (h1.2.resolve_left (fun h => h e1)) (h2.2.resolve_left (fun h => h e2))
    · exact .inl e
abbrev Nr := {p : ByteArray × Int // 0 ≤ p.2 ∧ p.2 ≤ 2}
instance : Inhabited Nr := ⟨⟨(ByteArray.empty, 0), by decide, by decide⟩⟩
def cf (x y : Nr) : Int := if x.1.2 = y.1.2 then Lib.compareBytes x.1.1.data.toList y.1.1.data.toList else x.1.2 - y.1.2
theorem lt_eq (x y : Nr) : (ltOf cf) x y = !(S_le y.1 x.1) := by
  unfold ltOf cf S_le
  rw [Lib.toList_data, Lib.toList_data]
  by_cases h : x.1.2 = y.1.2
  · rw [if_pos h, cb_lt]
    simp [h]
  · rw [if_neg h]
    have h' : ¬ y.1.2 = x.1.2 := fun e => h e.symm
    simp only [h', decide_false, Bool.false_and, Bool.or_false]
    by_cases c : y.1.2 < x.1.2
    · rw [decide_eq_true c, decide_eq_false (by omega)]; rfl
    · rw [decide_eq_false c, decide_eq_true (by omega)]; rfl
theorem S_total (a b : ByteArray × Int) (h : S_le a b = false) : S_le b a = true := by
  unfold S_le at *
  simp only [Bool.or_eq_false_iff, decide_eq_false_iff_not, Bool.and_eq_false_iff, Bool.not_eq_false', Bool.or_eq_true, decide_eq_true_eq, Bool.and_eq_true, Bool.not_eq_true'] at *
  by_cases c : a.2 = b.2
  · right
    refine ⟨c.symm, ?_⟩
    have h2 := h.2.resolve_left (fun h => h c)
    have t := bl_tri b.1.toList a.1.toList
    rw [h2, Bool.true_or] at t
    simpa using t.symm
  · left; omega
theorem S_trans (a b c : ByteArray × Int) (h1 : S_le a b = true) (h2 : S_le b c = true) : S_le a c = true := by
  unfold S_le at *
  simp only [Bool.or_eq_true, decide_eq_true_eq, Bool.and_eq_true, Bool.not_eq_true'] at *
  rcases h1 with h1 | ⟨h1, g1⟩
  · rcases h2 with h2 | ⟨h2, _⟩
    · left; omega
    · left; omega
  · rcases h2 with h2 | ⟨h2, g2⟩
    · left; omega
    · right; exact ⟨by omega, bl_le_trans _ _ _ g1 g2⟩
theorem S_anti (a b : ByteArray × Int) (h1 : S_le a b = true) (h2 : S_le b a = true) : a = b := by
  unfold S_le at *
  simp only [Bool.or_eq_true, decide_eq_true_eq, Bool.and_eq_true, Bool.not_eq_true'] at *
  have e : a.2 = b.2 := by omega
  have g1 : Op.bytesLess b.1.toList a.1.toList = false := by rcases h1 with h | h; omega; exact h.2
  have g2 : Op.bytesLess a.1.toList b.1.toList = false := by rcases h2 with h | h; omega; exact h.2
  have t := bl_tri a.1.toList b.1.toList
  rw [g1, g2] at t
  simp only [Bool.false_or, Bool.not_false, beq_iff_eq] at t
  rw [Lib.toList_data, Lib.toList_data] at t
  have t2 := Array.toList_inj.1 t
  obtain ⟨⟨x⟩, p⟩ := a
  obtain ⟨⟨y⟩, q⟩ := b
  simp only at t2 e
  subst e t2
  rfl
theorem cf_swo : SWO (ltOf cf) := by
  refine ⟨fun x => ?_, fun x y z h1 h2 => ?_, fun x y z h1 h2 => ?_⟩
  · rw [lt_eq]
    cases h : S_le x.1 x.1 with
    | true => rfl
    | false => exact absurd (S_total _ _ h) (by rw [h]; decide)
  · rw [lt_eq] at *
    simp only [Bool.not_eq_true'] at *
    cases h : S_le z.1 x.1 with
    | false => rfl
    | true => exact absurd (S_trans _ _ _ h (S_total _ _ h1)) (by rw [h2]; decide)
  · rw [lt_eq] at *
    simp only [Bool.not_eq_false'] at *
    exact S_trans _ _ _ h2 h1
theorem cf_tot : ∀ x y, (ltOf cf) x y = false → (ltOf cf) y x = false → x = y := fun x y h1 h2 => by
  rw [lt_eq] at *
  simp only [Bool.not_eq_false'] at *
  exact Subtype.ext (S_anti _ _ h2 h1)
theorem sort_map (d : List Nr) : (d.mergeSort fun x y => !(ltOf cf) y x).map Subtype.val = (d.map Subtype.val).mergeSort S_le := by
  refine List.map_mergeSort fun a _ b _ => ?_
  rw [lt_eq, Bool.not_not]
end
/-! ### SugClo -/
section
open Go.RowKit Go.Sort
def cfP (x y : ByteArray × Int) : Int := if x.2 = y.2 then Lib.compareBytes x.1.data.toList y.1.data.toList else x.2 - y.2
set_option maxHeartbeats 2000000 in
set_option maxRecDepth 100000 in
theorem clo (hC : ∀ (a b : ByteArray) (w : World), Calls Tryd.prog 96 #[.string a, .string b] w fun e w' => e = .returned (.int .i64 (Lib.compareBytes a.data.toList b.data.toList)) ∧ w' = w)
    (x y : ByteArray × Int) (hx : 0 ≤ x.2 ∧ x.2 ≤ 2) (hy : 0 ≤ y.2 ∧ y.2 ≤ 2) (W : World) : Calls Tryd.prog 95 #[.agg #[.string x.1, .int .i64 x.2], .agg #[.string y.1, .int .i64 y.2]] W fun e w' => e = .returned (.int .i64 (cfP x y)) ∧ ∃ q os', w' = grow (W.drewN q) os' := by
  obtain ⟨xs, a⟩ := x
  obtain ⟨ys, b⟩ := y
  simp only at hx hy
  unfold cfP
  simp only
  have hsub : IntKind.i64.wrap (a - b) = a - b := by rw [IntKind.wrap_i64]; omega
  have hsub2 : wrap64 (a - b) = a - b := by unfold wrap64; omega
  by_cases h : a = b
  · rw [if_pos h]
    have hne : (a != b) = false := by rw [h]; simp
    have hcon := fun W' => hC xs ys W'
    generalize Lib.compareBytes xs.data.toList ys.data.toList = r at hcon ⊢
    clear hC hx hy hsub hsub2 
    subst h
    go_enter Tryd.func95, Tryd.ntmps95
    go_wp2_with (go_at_call 96; refine (hcon _).mono ?_; rintro e w' ⟨rfl, rfl⟩)
    go_ret
    exact ⟨rfl, 0, _, by rw [alloc_eq_grow, alloc_eq_grow, grow_grow]; rfl⟩
  · rw [if_neg h]
    have hne : (a != b) = true := bne_iff_ne.2 h
    clear hC hx hy
    go_enter Tryd.func95, Tryd.ntmps95
    go_wp2
    go_ret
    exact ⟨rfl, 0, _, by rw [alloc_eq_grow, alloc_eq_grow, grow_grow]; rfl⟩
end
/-! ### SugA -/
section
open Go.RowKit Go.Proofs.YtcokeankiedfcaaDoorW.PrintWords
def lp (x : ByteArray) : Bool := decide ((65536 : Int) < (x.size : Int))
section
variable (T : World → Prop) (hTb : ∀ W W', T W → Below W.heap.size W W' → T W')
  (D : ByteArray → Option (List Int × Int)) (hD : ∀ a0 r1 r2 w, T w → D a0 = some (r1, r2) → Calls Tryd.prog 16 #[.string a0] w fun e w' => ∃ v0_ : Value, e = .returned (.tuple #[v0_, .int .i64 r2]) ∧ Kd.R (Kd.int .i64) 3 w' w.heap.size (fun _ => True) v0_ r1 ∧ Below w.heap.size w w')
  (E : ByteArray → ByteArray → Option (Int × Int)) (hE : ∀ a0 a1 r1 r2 w, T w → E a0 a1 = some (r1, r2) → Calls Tryd.prog 23 #[.string a0, .string a1] w fun e w' => e = .returned (.tuple #[.int .i64 r1, .int .i64 r2]) ∧ Below w.heap.size w w')
  (A0 : Option Addr) (c0 : Nat) (l0 : List ByteArray) (a1 : ByteArray) (a2 : Int)
def Ret (l0 : List ByteArray) (A0 : Option Addr) (c0 : Nat) (a1 : ByteArray) (a2 : Int) (w : World) (r1 : List ByteArray) (r2 : Int) : Prop :=
  Calls Tryd.prog 50 #[.slice A0 l0.length c0, .string a1, .int .i64 a2] w fun e w' => ∃ v0_ : Value, e = .returned (.tuple #[v0_, .int .i64 r2]) ∧ Kd.R Kd.string 9 w' w.heap.size (fun _ => True) v0_ r1 ∧ Below w.heap.size w w'
set_option maxRecDepth 1000000 in
set_option maxHeartbeats 4000000 in
theorem long1 (w : World) (h : (l0.length : Int) > 4096) : Ret l0 A0 c0 a1 a2 w [] 2 := by
  unfold Ret
  have d0 : decide ((4096 : Int) < (l0.length : Int)) = true := decide_eq_true h
  have d0b : decide (4096 < l0.length) = true := decide_eq_true (by omega)
  have d0c : (4096 < l0.length) = True := eq_true (by omega)
  clear h
  go_enter Tryd.func50, Tryd.ntmps50
  go_wp2
  go_ret2
  exact ⟨_, rfl, Kd.R_nil _ _ _ _ _, Below.refl _ _⟩
set_option maxRecDepth 1000000 in
set_option maxHeartbeats 4000000 in
theorem long2 (w : World) (h0 : ¬ (l0.length : Int) > 4096) (h : (a1.size : Int) > 65536) : Ret l0 A0 c0 a1 a2 w [] 2 := by
  unfold Ret
  have d0 : decide ((4096 : Int) < (l0.length : Int)) = false := decide_eq_false h0
  have d0b : decide (4096 < l0.length) = false := decide_eq_false (by omega)
  have d0c : (4096 < l0.length) = False := eq_false (by omega)
  have d1 : decide ((65536 : Int) < (a1.size : Int)) = true := decide_eq_true h
  have d1b : decide (65536 < a1.size) = true := decide_eq_true (by omega)
  have d1c : (65536 < a1.size) = True := eq_true (by omega)
  clear h h0
  go_enter Tryd.func50, Tryd.ntmps50
  go_wp2
  go_ret2
  exact ⟨_, rfl, Kd.R_nil _ _ _ _ _, Below.refl _ _⟩
set_option maxRecDepth 1000000 in
set_option maxHeartbeats 4000000 in
theorem long3 (w : World) (h0 : ¬ (l0.length : Int) > 4096) (h1 : ¬ (a1.size : Int) > 65536) (hA : Calls Tryd.prog 92 #[.slice A0 l0.length c0, .func (.func 93) #[] #[]] w fun e w' => e = .returned (.bool true) ∧ Drawn0 w w') : Ret l0 A0 c0 a1 a2 w [] 2 := by
  unfold Ret
  have d0 : decide ((4096 : Int) < (l0.length : Int)) = false := decide_eq_false h0
  have d0b : decide (4096 < l0.length) = false := decide_eq_false (by omega)
  have d0c : (4096 < l0.length) = False := eq_false (by omega)
  have d1 : decide ((65536 : Int) < (a1.size : Int)) = false := decide_eq_false h1
  have d1b : decide (65536 < a1.size) = false := decide_eq_false (by omega)
  have d1c : (65536 < a1.size) = False := eq_false (by omega)
  clear h1 h0
  go_enter Tryd.func50, Tryd.ntmps50
  go_wp2_with (go_at_call 92; refine hA.mono ?_; rintro e w' ⟨rfl, ⟨nd, rfl⟩⟩)
  go_ret2
  exact ⟨_, rfl, Kd.R_nil _ _ _ _ _, pw_below_drewN (Below.refl _ _) nd⟩
def chk : List ByteArray → Option Bool
  | [] => some true
  | w :: t => (D w).bind fun b => if b.2 = 0 then chk t else some false
def near (x : ByteArray) : List ByteArray → List ByteArray → Option (List (ByteArray × Int))
  | [], _ => some []
  | w :: t, seen => if seen.any (fun s => s.toList == w.toList) = true then near x t seen else ((E x w).bind fun b => if 0 ≤ b.1 then ((near x t (w :: seen)).bind fun l => if b.2 = 0 ∧ b.1 ≤ 2 then some ((w, b.1) :: l) else some l) else none)
include hTb hD
set_option maxRecDepth 1000000 in
set_option maxHeartbeats 4000000 in
theorem bad1 (w : World) (hT : T w) (h0 : ¬ (l0.length : Int) > 4096) (h1 : ¬ (a1.size : Int) > 65536) (hA : Calls Tryd.prog 92 #[.slice A0 l0.length c0, .func (.func 93) #[] #[]] w fun e w' => e = .returned (.bool false) ∧ Drawn0 w w')
    (x : List Int) (c : Int) (hd : D a1 = some (x, c)) (hc : c ≠ 0) : Ret l0 A0 c0 a1 a2 w [] 3 := by
  unfold Ret
  have d0 : decide ((4096 : Int) < (l0.length : Int)) = false := decide_eq_false h0
  have d0b : decide (4096 < l0.length) = false := decide_eq_false (by omega)
  have d0c : (4096 < l0.length) = False := eq_false (by omega)
  have d1 : decide ((65536 : Int) < (a1.size : Int)) = false := decide_eq_false h1
  have d1b : decide (65536 < a1.size) = false := decide_eq_false (by omega)
  have d1c : (65536 < a1.size) = False := eq_false (by omega)
  have d2 : (c != 0) = true := bne_iff_ne.2 hc
  have hcd := fun nd => hD a1 x c (w.drewN nd) (hTb _ _ hT (pw_below_drewN (Below.refl _ _) nd)) hd
  clear h1 h0 hc hT hd hD hTb
  go_enter Tryd.func50, Tryd.ntmps50
  go_wp2_with (first | (go_at_call 92; refine hA.mono ?_; rintro e w' ⟨rfl, ⟨nd, rfl⟩⟩) | (go_at_call 16; refine (hcd _).mono ?_; rintro e w1 ⟨v0, rfl, _, hb1⟩; have HB1 := Lib.hid hb1; clear hb1))
  go_ret2
  exact ⟨_, rfl, Kd.R_nil _ _ _ _ _, below_then (pw_below_drewN (Below.refl _ _) _) (Nat.le_refl _) HB1⟩
end
end
/-! ### SugB -/
section
open Go.RowKit Go.Proofs.YtcokeankiedfcaaDoorW.PrintWords
theorem i64w (x : Int) : IntKind.i64.wrap x = wrap64 x := by unfold wrap64; exact IntKind.wrap_i64 x
section
variable (T : World → Prop) (hTb : ∀ W W', T W → Below W.heap.size W W' → T W')
  (D : ByteArray → Option (List Int × Int)) (hD : ∀ a0 r1 r2 w, T w → D a0 = some (r1, r2) → Calls Tryd.prog 16 #[.string a0] w fun e w' => ∃ v0_ : Value, e = .returned (.tuple #[v0_, .int .i64 r2]) ∧ Kd.R (Kd.int .i64) 3 w' w.heap.size (fun _ => True) v0_ r1 ∧ Below w.heap.size w w')
  (E : ByteArray → ByteArray → Option (Int × Int)) (hE : ∀ a0 a1 r1 r2 w, T w → E a0 a1 = some (r1, r2) → Calls Tryd.prog 23 #[.string a0, .string a1] w fun e w' => e = .returned (.tuple #[.int .i64 r1, .int .i64 r2]) ∧ Below w.heap.size w w')
  (A0 : Option Addr) (c0 : Nat) (l0 : List ByteArray) (a1 : ByteArray) (a2 : Int)
include hTb hD
set_option maxRecDepth 1000000 in
set_option maxHeartbeats 4000000 in
theorem bad2 (w : World) (hT : T w) (hr0 : Kd.C Kd.string w A0 l0.length l0) (hc0 : l0.length ≤ c0) (h0 : ¬ (l0.length : Int) > 4096) (h1 : ¬ (a1.size : Int) > 65536) (hA : Calls Tryd.prog 92 #[.slice A0 l0.length c0, .func (.func 93) #[] #[]] w fun e w' => e = .returned (.bool false) ∧ Drawn0 w w')
    (x : List Int) (hd : D a1 = some (x, 0)) (hc : chk D l0 = some false) : Ret l0 A0 c0 a1 a2 w [] 3 := by
  unfold Ret
  have d0 : decide ((4096 : Int) < (l0.length : Int)) = false := decide_eq_false h0
  have d0b : decide (4096 < l0.length) = false := decide_eq_false (by omega)
  have d0c : (4096 < l0.length) = False := eq_false (by omega)
  have d1 : decide ((65536 : Int) < (a1.size : Int)) = false := decide_eq_false h1
  have d1b : decide (65536 < a1.size) = false := decide_eq_false (by omega)
  have d1c : (65536 < a1.size) = False := eq_false (by omega)
  have hcd := fun nd => hD a1 x 0 (w.drewN nd) (hTb _ _ hT (pw_below_drewN (Below.refl _ _) nd)) hd
  have HC0 := Lib.hid hc
  clear h1 hd hc
  go_enter Tryd.func50, Tryd.ntmps50
  go_wp2_with (first | (go_at_call 92; refine hA.mono ?_; rintro e w' ⟨rfl, ⟨nd, rfl⟩⟩) | (go_at_call 16; refine (hcd _).mono ?_; rintro e w1 ⟨v0, rfl, hR, hb1⟩; obtain ⟨A1, k1, rfl⟩ := Kd.R_slice hR; have HB1 := Lib.hid (below_then (pw_below_drewN (Below.refl _ _) nd) (Nat.le_refl _) hb1); clear hb1 hR))
  clear hA hcd d0 d0b d0c d1 d1b d1c
  go_loopw [44] (fun i wr => ∃ k : Nat, k ≤ l0.length ∧ i = .int .i64 k ∧ Hid (chk D (l0.drop k) = some false) ∧ Hid (Below w.heap.size w wr)) (fun i _ => l0.length - (intOf i).toNat)
  case atStart => exact ⟨0, Nat.zero_le _, rfl, HC0, HB1⟩
  case round =>
    obtain ⟨k, hk, rfl, HC, HB⟩ := hrel
    by_cases hlt : k < l0.length
    · have hTr := hTb _ _ hT HB.out
      obtain ⟨ad, rfl, hcell0⟩ := Kd.at_string hr0 (k : Int) (by omega) (by omega)
      replace hcell0 : w.cell? (ad.add k) = some (.string (l0.getD k ByteArray.empty)) := hcell0
      have hcell := pw_cell_below HB.out hcell0
      have p1 := eq_true (show (0 : Int) ≤ (k : Int) by omega)
      have p2 := eq_true (show (k : Int) < (l0.length : Int) by omega)
      have p3 : decide ((k : Int) < (l0.length : Int)) = true := decide_eq_true (by omega)
      have hw1 : wrap64 ((k : Int) + 1) = ((k + 1 : Nat) : Int) := by unfold wrap64; omega
      have hw2 : IntKind.i64.wrap ((k : Int) + 1) = ((k + 1 : Nat) : Int) := (i64w _).trans hw1
      obtain ⟨b, hb, hb2⟩ := Option.bind_eq_some_iff.1 (show (D (l0.getD k ByteArray.empty)).bind (fun b => if b.2 = 0 then chk D (l0.drop (k + 1)) else some false) = some false by
        have h_ := HC.out
        rw [List.drop_eq_getElem_cons hlt] at h_
        rw [List.getD_eq_getElem?_getD, List.getElem?_eq_getElem hlt]
        exact h_)
      obtain ⟨y, cc⟩ := b
      have hcd := hD (l0.getD k ByteArray.empty) y cc wr hTr hb
      simp only at hb2
      by_cases hz : cc = 0
      · subst hz
        rw [if_pos rfl] at hb2
        have HC2 := Lib.hid hb2
        have HK := Lib.hid hlt
        clear hb hb2 hcell0 hTr hr0 hlt hk HC
        go_wp2_with (first | (go_at_call 16; refine hcd.mono ?_; rintro e w2 ⟨v2, rfl, _, hb2⟩; have HB2 := Lib.hid (below_then HB.out HB.out.size hb2); clear hb2))
        go_roundw
        case rel => exact ⟨k + 1, HK.out, rfl, HC2, HB2⟩
        case measure => have := HK.out; simp only [intOf, Int.toNat_natCast]; omega
      · have d2 : (cc != 0) = true := bne_iff_ne.2 hz
        clear hb hb2 hcell0 hTr hr0 hlt hk HC
        go_wp2_with (first | (go_at_call 16; refine hcd.mono ?_; rintro e w2 ⟨v2, rfl, _, hb2⟩; have HB2 := Lib.hid (below_then HB.out HB.out.size hb2); clear hb2))
        go_ret2
        exact ⟨_, rfl, Kd.R_nil _ _ _ _ _, HB2.out⟩
    · have h_ := HC.out
      rw [List.drop_eq_nil_of_le (by omega)] at h_
      cases h_
end
end
/-! ### SugK -/
section
open Go.RowKit Go.Proofs.YtcokeankiedfcaaDoorW.PrintWords
def nv (x : ByteArray × Int) : List Value := [.string x.1, .int .i64 x.2]
def kNr : Kd (ByteArray × Int) where
  sz := 2
  E := []
  K := fun _ x cs => cs = nv x
  M := fun _ _ _ x cs => cs = nv x
  K_len := fun h => by rw [h]; rfl
  K_one := fun h u hu => by
    rw [h] at hu
    simp only [nv, List.mem_cons, List.not_mem_nil, or_false] at hu
    rcases hu with rfl | rfl <;> rfl
  K_below := fun _ h => h
  K_of_M := fun h => h
  M_mono := fun _ h => h
  M_bound := fun h => h
  M_move := fun _ h => h
  M_lower := fun _ h => h
theorem Seen.mono {P : Program} {w : World} {b n m : Nat} {seen : List ByteArray} (h : Seen P w b n seen) (hm : n ≤ m) : Seen P w b m seen := by
  obtain ⟨D, h1, h2, h3⟩ := h
  exact ⟨D, h1.mono hm, h2, h3⟩
theorem R_overMap {α : Type} {d : Kd α} {e : Nat} {P : Program} {w w' : World} {base b n : Nat} {v : Value} {xs : List α} {seen : List ByteArray} (h : d.R e w base (fun _ => True) v xs) (hs : Seen P w b n seen) (hg : w.grownBy w' (some b)) : d.R e w' base (fun _ => True) v xs := by
  obtain ⟨es, c, hb⟩ := hs.isMap
  have h1 := Kd.R_mono (ok' := fun k => k ≠ b) (Kd.R_bound h) (fun k hk hkb => by
    obtain ⟨_, _, _, q, _, cells, hc⟩ := hk
    rw [hkb, hb] at hc
    cases hc)
  exact Kd.R_mono (Kd.R_step h1 (fun k hk hlt => hg.block k hlt (fun e => hk (Option.some.inj e)))) (fun _ _ => trivial)
theorem Seen.below {P : Program} {w w' : World} {b n : Nat} {seen : List ByteArray} (h : Seen P w b n seen) (hb : Below w.heap.size w w') : Seen P w' b n seen := h.kept (hb.block b h.lt)
theorem Seen.alloc {P : Program} {w : World} {b n : Nat} {seen : List ByteArray} (h : Seen P w b n seen) (o : Obj) : Seen P (w.alloc o) b n seen := h.kept (Below.heap_alloc w o b h.lt)
theorem ownBlock_cells {α : Type} {d : Kd α} {e : Nat} {w : World} {base : Nat} {ok : Nat → Prop} {v : Value} {xs : List α} (h : d.R e w base ok v xs) (k : Nat) (hk : v.ownBlock = some k) : ∃ cells, w.heap[k]? = some (.cells cells e (0, 0)) := by
  obtain ⟨inner, ho⟩ := Kd.R_own h
  exact own_typed ho k hk
theorem Seen.overRow {α : Type} {d : Kd α} {e : Nat} {P : Program} {w w' : World} {base b n : Nat} {ok : Nat → Prop} {v : Value} {xs : List α} {seen : List ByteArray} (h : Seen P w b n seen) (hr : d.R e w base ok v xs) (hg : w.grownBy w' v.ownBlock) : Seen P w' b n seen := by
  refine h.kept (hg.block b h.lt fun e_ => ?_)
  obtain ⟨cells, hc⟩ := ownBlock_cells hr b e_.symm
  obtain ⟨es, c, hb⟩ := h.isMap
  rw [hb] at hc
  cases hc
theorem u9 : Tryd.prog.underlying 9 = some .string := by kernel_rfl
theorem u4 : Tryd.prog.underlying 4 = some .bool := by kernel_rfl
theorem u112 : Tryd.prog.underlying 112 = some (.map 9 4) := by kernel_rfl
theorem u111 : Tryd.prog.underlying 111 = some (.slice 114) := by kernel_rfl
theorem u39 : Tryd.prog.underlying 39 = some (.slice 9) := by kernel_rfl
theorem z4 (w : World) : (zeroValue 4).run Tryd.prog w = .ok (.bool false) w := by kernel_rfl
theorem i114 : (Tryd.prog.info? 114).map (fun i => (i.zero, i.size, i.bytes)) = some (some (.agg #[.string ByteArray.empty, .int .i64 0]), 2, 24) := by kernel_rfl
theorem i9 : (Tryd.prog.info? 9).map (fun i => (i.zero, i.size, i.bytes)) = some (some (.string ByteArray.empty), 1, 16) := by kernel_rfl
end
/-! ### SugC -/
section
open Go.RowKit Go.Proofs.YtcokeankiedfcaaDoorW.PrintWords Go.Proofs.YtcokeankiedfcaaDoorW.PrintLast Go.Proofs.YtcokeankiedfcaaDoorW.PrintMore
attribute [local go_sem] max2_int min2_int max_two min_two max_three min_three max_four min_four
theorem wup (k : Nat) (h : k < 5000) : wrap64 ((k : Int) + 1) = ((k + 1 : Nat) : Int) := by unfold wrap64; omega
theorem R_overRow {α β : Type} {d : Kd α} {d' : Kd β} {e e' : Nat} {w w' : World} {base : Nat} {ok : Nat → Prop} {v v' : Value} {xs : List α} {ys : List β} (h : d.R e w base (fun _ => True) v xs) (hr : d'.R e' w base ok v' ys) (hg : w.grownBy w' v'.ownBlock) (hne : ∀ q ∈ e :: d.E, q ≠ e') : d.R e w' base (fun _ => True) v xs := by
  refine Kd.R_mono (Kd.R_step (Kd.R_bound h) (fun k hk hlt => hg.block k hlt (fun e_ => ?_))) (fun _ _ => trivial)
  obtain ⟨_, _, _, q, hq, cells, hc⟩ := hk
  obtain ⟨cells', hc'⟩ := ownBlock_cells hr k e_.symm
  rw [hc] at hc'
  injection hc' with hc'
  injection hc' with _ h2
  exact hne q hq h2
theorem no9 : ∀ q ∈ (114 : Nat) :: kNr.E, q ≠ (9 : Nat) := by intro q hq; rcases List.mem_cons.1 hq with rfl | hq; decide; cases hq
theorem len16 {n j : Nat} (h1 : n = j) (h2 : j < 5000) : (n + 1) * 16 ≤ 140737488355328 := by omega
theorem meas {j n : Nat} (h : j < n) : n - (j + 1) < n - j := by omega
theorem take_nil (l : List (ByteArray × Int)) (m : Nat) (h : l.length = ([] : List (ByteArray × Int)).length) : (l.take m).map (fun p => p.1) = [] := by
  obtain rfl := List.length_eq_zero_iff.1 h
  rw [List.take_nil]; rfl
theorem take_all (l : List (ByteArray × Int)) (n m : Nat) (h : l.length = n) (h2 : n < m) : (l.take n).map (fun p => p.1) = (l.take m).map (fun p => p.1) := by
  rw [List.take_of_length_le (by omega), List.take_of_length_le (by omega)]
theorem lt_of_most {j m n : Nat} (h1 : j < m) (h2 : ¬ n < m) : j < n := by omega
theorem eq_of_nlt {j n : Nat} (h1 : j ≤ n) (h2 : ¬ j < n) : j = n := by omega
theorem getD_some {α : Type} (l : List α) (z : α) (j : Nat) (h : j < l.length) : l[j]? = some (l.getD j z) := by
  rw [List.getD_eq_getElem?_getD, List.getElem?_eq_getElem h]; rfl
theorem take_fst (l : List (ByteArray × Int)) (j : Nat) (q : ByteArray × Int) (h : l[j]? = some q) : (l.take (j + 1)).map (fun p => p.1) = (l.take j).map (fun p => p.1) ++ [q.1] := by
  rw [List.take_add_one, h, List.map_append]; rfl
theorem len_fst (l : List (ByteArray × Int)) (j : Nat) (h : j < l.length) : ((l.take j).map (fun p => p.1)).length = j := by
  rw [List.length_map, List.length_take]; omega
theorem small_j {j n m : Nat} (h1 : j < n) (h2 : n ≤ m) (h3 : (m : Int) ≤ 4096) : j < 5000 := by omega
theorem nz_lt {j n : Nat} (h : j < n) : (0 : Int) ≤ (j : Int) ∧ (j : Int) < (n : Int) := by omega
theorem cells2 {W : World} {ad : Addr} {j : Nat} {q : ByteArray × Int} {c : List Value} (hK : kNr.K W q c) (h : ∀ i u, c[i]? = some u → W.cell? (ad.add (j * 2 + i)) = some u) :
    W.cell? (ad.add (j * 2)) = some (.string q.1) ∧ W.cell? ⟨(ad.add (j * 2)).block, (ad.add (j * 2)).off + 1, none⟩ = some (.int .i64 q.2) := by
  obtain rfl : c = nv q := hK
  exact ⟨h 0 _ rfl, by rw [← add_field ad (j * 2) 1 (by omega)]; exact h 1 _ rfl⟩
section
variable (T : World → Prop) (hTb : ∀ W W', T W → Below W.heap.size W W' → T W')
  (D : ByteArray → Option (List Int × Int)) (hD : ∀ a0 r1 r2 w, T w → D a0 = some (r1, r2) → Calls Tryd.prog 16 #[.string a0] w fun e w' => ∃ v0_ : Value, e = .returned (.tuple #[v0_, .int .i64 r2]) ∧ Kd.R (Kd.int .i64) 3 w' w.heap.size (fun _ => True) v0_ r1 ∧ Below w.heap.size w w')
  (E : ByteArray → ByteArray → Option (Int × Int)) (hE : ∀ a0 a1 r1 r2 w, T w → E a0 a1 = some (r1, r2) → Calls Tryd.prog 23 #[.string a0, .string a1] w fun e w' => e = .returned (.tuple #[.int .i64 r1, .int .i64 r2]) ∧ Below w.heap.size w w')
  (sort : List (ByteArray × Int) → List (ByteArray × Int))
  (hSort : ∀ (w0 W : World) (base : Nat) (v : Value) (L : List (ByteArray × Int)), Below base w0 W → base ≤ W.heap.size → (∀ p ∈ L, 0 ≤ p.2 ∧ p.2 ≤ 2) → L.length ≤ 5000 → Kd.R kNr 114 W base (fun _ => True) v L → Calls Tryd.prog 94 #[v, .func (.func 95) #[] #[]] W fun e w' => e = .returned (.tuple #[]) ∧ Below base w0 w' ∧ (sort L).length = L.length ∧ Kd.R kNr 114 w' base (fun _ => True) v (sort L))
  (A0 : Option Addr) (c0 : Nat) (l0 : List ByteArray) (a1 : ByteArray) (a2 : Int)
include hTb hD hE hSort
set_option maxRecDepth 1000000 in
set_option maxHeartbeats 4000000 in
theorem good (w : World) (hT : T w) (hr0 : Kd.C Kd.string w A0 l0.length l0) (hc0 : l0.length ≤ c0) (h0 : ¬ (l0.length : Int) > 4096) (h1 : ¬ (a1.size : Int) > 65536) (hsz : ∀ s ∈ l0, s.size ≤ 65536) (hA : Calls Tryd.prog 92 #[.slice A0 l0.length c0, .func (.func 93) #[] #[]] w fun e w' => e = .returned (.bool false) ∧ Drawn0 w w')
    (x : List Int) (hd : D a1 = some (x, 0)) (hc : chk D l0 = some true) (hx : (x.length : Int) ≤ 200) (m : Nat) (ha1 : m ≤ 20) (L : List (ByteArray × Int)) (hn : near E a1 l0 [] = some L) : Ret l0 A0 c0 a1 (m : Int) w (((sort L).take m).map (fun p => p.1)) 0 := by
  unfold Ret
  have hmm := @run_makeMap Tryd.prog
  have d0 : decide ((4096 : Int) < (l0.length : Int)) = false := decide_eq_false h0
  have d0b : decide (4096 < l0.length) = false := decide_eq_false (by omega)
  have d0c : (4096 < l0.length) = False := eq_false (by omega)
  have d1 : decide ((65536 : Int) < (a1.size : Int)) = false := decide_eq_false h1
  have d1b : decide (65536 < a1.size) = false := decide_eq_false (by omega)
  have d1c : (65536 < a1.size) = False := eq_false (by omega)
  have d2 : decide ((200 : Int) < (x.length : Int)) = false := decide_eq_false (by omega)
  have d2b : decide (200 < x.length) = false := decide_eq_false (by omega)
  have d2c : (200 < x.length) = False := eq_false (by omega)
  have d3 : decide ((m : Int) < 0) = false := decide_eq_false (by omega)
  have d4 : decide ((20 : Int) < (m : Int)) = false := decide_eq_false (by omega)
  have d4b : decide (20 < m) = false := decide_eq_false (by omega)
  have d4c : (20 < m) = False := eq_false (by omega)
  have hcd := fun nd => hD a1 x 0 (w.drewN nd) (hTb _ _ hT (pw_below_drewN (Below.refl _ _) nd)) hd
  have HC0 := Lib.hid hc
  have HN0 := Lib.hid hn
  have HA1 := Lib.hid ha1
  have HSZ := Lib.hid hsz
  clear h1 hd hc hn hx ha1 hsz
  go_enter Tryd.func50, Tryd.ntmps50
  go_wp2_with (first | (go_at_call 92; refine hA.mono ?_; rintro e w' ⟨rfl, ⟨nd, rfl⟩⟩) | (go_at_call 16; refine (hcd _).mono ?_; rintro e w1 ⟨v0, rfl, hR, hb1⟩; obtain ⟨A1, k1, rfl⟩ := Kd.R_slice hR; have HB1 := Lib.hid (below_then (pw_below_drewN (Below.refl _ _) nd) (Nat.le_refl _) hb1); clear hb1 hR))
  clear hA hcd d0 d0b d0c d1 d1b d1c
  go_loopw [44] (fun i wr => ∃ k : Nat, k ≤ l0.length ∧ i = .int .i64 k ∧ Hid (chk D (l0.drop k) = some true) ∧ Hid (Below w.heap.size w wr)) (fun i _ => l0.length - (intOf i).toNat)
  case atStart => exact ⟨0, Nat.zero_le _, rfl, HC0, HB1⟩
  case round =>
    obtain ⟨k, hk, rfl, HC, HB⟩ := hrel
    by_cases hlt : k < l0.length
    · have hTr := hTb _ _ hT HB.out
      obtain ⟨ad, rfl, hcell0⟩ := Kd.at_string hr0 (k : Int) (by omega) (by omega)
      replace hcell0 : w.cell? (ad.add k) = some (.string (l0.getD k ByteArray.empty)) := hcell0
      have hcell := pw_cell_below HB.out hcell0
      have p1 := eq_true (show (0 : Int) ≤ (k : Int) by omega)
      have p2 := eq_true (show (k : Int) < (l0.length : Int) by omega)
      have p3 : decide ((k : Int) < (l0.length : Int)) = true := decide_eq_true (by omega)
      have hw1 := wup k (by omega)
      have hw2 : IntKind.i64.wrap ((k : Int) + 1) = ((k + 1 : Nat) : Int) := (i64w _).trans hw1
      obtain ⟨b, hb, hb2⟩ := Option.bind_eq_some_iff.1 (show (D (l0.getD k ByteArray.empty)).bind (fun b => if b.2 = 0 then chk D (l0.drop (k + 1)) else some false) = some true by
        have h_ := HC.out
        rw [List.drop_eq_getElem_cons hlt] at h_
        rw [List.getD_eq_getElem?_getD, List.getElem?_eq_getElem hlt]
        exact h_)
      obtain ⟨y, cc⟩ := b
      have hcd := hD (l0.getD k ByteArray.empty) y cc wr hTr hb
      simp only at hb2
      by_cases hz : cc = 0
      · subst hz
        rw [if_pos rfl] at hb2
        have HC2 := Lib.hid hb2
        have HK := Lib.hid hlt
        clear hb hb2 hcell0 hTr hr0 hlt hk HC
        go_wp2_with (first | (go_at_call 16; refine hcd.mono ?_; rintro e w2 ⟨v2, rfl, _, hb2⟩; have HB2 := Lib.hid (below_then HB.out HB.out.size hb2); clear hb2))
        go_roundw
        case rel => exact ⟨k + 1, HK.out, rfl, HC2, HB2⟩
        case measure => have := HK.out; simp only [intOf, Int.toNat_natCast]; omega
      · rw [if_neg hz] at hb2
        cases hb2
    · obtain rfl : k = l0.length := by omega
      have p3 : decide ((l0.length : Int) < (l0.length : Int)) = false := decide_eq_false (by omega)
      clear hlt hk HC HB1
      have HM : Hid (Seen Tryd.prog (wr.alloc (.map #[] 0)) wr.heap.size 0 []) := Seen.made _ _
      have HB3 := Lib.hid (below_alloc HB.out (.map #[] 0))
      have HW := Lib.hid HB.out.size
      go_wp2
      clear d2 d2b d2c d3 d4 d4b d4c p3 HB
      go_loopw [14, 70] (fun v i wq => ∃ (k : Nat) (acc : List (ByteArray × Int)) (seen : List ByteArray), k ≤ l0.length ∧ i = .int .i64 k ∧ Hid (∃ L', near E a1 (l0.drop k) seen = some L' ∧ acc ++ L' = L) ∧ Hid (Seen Tryd.prog wq wr.heap.size k seen) ∧ Hid (Kd.R kNr 114 wq w.heap.size (fun _ => True) v acc) ∧ Hid (∀ p ∈ acc, 0 ≤ p.2 ∧ p.2 ≤ 2) ∧ Hid (acc.length ≤ k) ∧ Hid (Below w.heap.size w wq)) (fun _ i _ => l0.length - (intOf i).toNat)
      case atStart => exact ⟨0, [], [], Nat.zero_le _, rfl, ⟨L, HN0.out, rfl⟩, HM, Kd.R_nil _ _ _ _ _, (fun p hp => by cases hp), Nat.le_refl _, HB3⟩
      case round =>
        obtain ⟨k, acc, seen, hk, rfl, HN, HM, HR, HP, HL, HB⟩ := hrel
        have hvR := HR.out
        obtain ⟨A4, k4, rfl⟩ := Kd.R_slice hvR
        by_cases hlt : k < l0.length
        · have hTr := hTb _ _ hT HB.out
          obtain ⟨ad, rfl, hcell0⟩ := Kd.at_string hr0 (k : Int) (by omega) (by omega)
          replace hcell0 : w.cell? (ad.add k) = some (.string (l0.getD k ByteArray.empty)) := hcell0
          have hs : l0.getD k ByteArray.empty ∈ l0 := by
            rw [List.getD_eq_getElem?_getD, List.getElem?_eq_getElem hlt]
            exact List.getElem_mem hlt
          have hsz := HSZ.out _ hs
          have hsm : (l0.getD k ByteArray.empty).size ≤ maxLen := by unfold maxLen; omega
          obtain ⟨L', hn, hL⟩ := HN.out
          rw [List.drop_eq_getElem_cons hlt] at hn
          have hge : l0[k] = l0.getD k ByteArray.empty := by rw [List.getD_eq_getElem?_getD, List.getElem?_eq_getElem hlt]; rfl
          rw [hge] at hn
          generalize l0.getD k ByteArray.empty = s at hcell0 hs hsz hsm hn hge
          have hcell := pw_cell_below HB.out hcell0
          have p1 := eq_true (show (0 : Int) ≤ (k : Int) by omega)
          have p2 := eq_true (show (k : Int) < (l0.length : Int) by omega)
          have p3 : decide ((k : Int) < (l0.length : Int)) = true := decide_eq_true (by omega)
          have hw1 := wup k (by omega)
          have hw2 : IntKind.i64.wrap ((k : Int) + 1) = ((k + 1 : Nat) : Int) := (i64w _).trans hw1
          have hlook := HM.out.look u9 u4 u112 (z4 _) s hsm
          unfold near at hn
          by_cases hsn : seen.any (fun t => t.toList == s.toList) = true
          · rw [if_pos hsn] at hn
            rw [hsn] at hlook
            have HN2 : Hid (∃ L', near E a1 (l0.drop (k + 1)) seen = some L' ∧ acc ++ L' = L) := ⟨L', hn, hL⟩
            have HM2 := Lib.hid (HM.out.mono (Nat.le_succ k))
            have HL2 : Hid (acc.length ≤ k + 1) := Nat.le_succ_of_le HL.out
            have HK := Lib.hid hlt
            clear hn hL HN HM HL hsn hsm hs hcell0 hTr hr0 hlt hk hge hsz hvR
            go_wp2
            go_roundw
            case rel => exact ⟨k + 1, acc, seen, HK.out, rfl, HN2, HM2, HR, HP, HL2, HB⟩
            case measure => have := HK.out; simp only [intOf, Int.toNat_natCast]; omega
          · rw [if_neg hsn] at hn
            have hsf : seen.any (fun t => t.toList == s.toList) = false := Bool.eq_false_iff.2 hsn
            rw [hsf] at hlook
            obtain ⟨⟨ed, ec⟩, he1, hn⟩ := Option.bind_eq_some_iff.1 hn
            simp only at hn
            have hge0 : 0 ≤ ed := by
              by_cases c : 0 ≤ ed
              · exact c
              · rw [if_neg c] at hn; cases hn
            rw [if_pos hge0] at hn
            obtain ⟨L1, hn1, hn2⟩ := Option.bind_eq_some_iff.1 hn
            obtain ⟨w5, hupd, hs5, hg5⟩ := HM.out.store u9 u4 u112 (by unfold maxLen; omega) s hsm
            have hr5 := R_overMap hvR HM.out hg5
            have hb5 : Below w.heap.size w w5 := HB.out.grown hg5 HB.out.size (fun j hj => by cases hj; exact HW.out)
            have hce := hE a1 s ed ec w5 (hTb _ _ hT hb5) he1
            have HK := Lib.hid hlt
            have HR5 := Lib.hid hr5
            have HS5 := Lib.hid hs5
            have HB5 := Lib.hid hb5
            have HG5 := Lib.hid hg5.size
            by_cases hp : ec = 0 ∧ ed ≤ 2
            · obtain ⟨rfl, he2⟩ := hp
              rw [if_pos ⟨rfl, he2⟩] at hn2
              obtain rfl := Option.some.inj hn2
              have q1 : decide (ed ≤ 2) = true := decide_eq_true he2
              have HN2 : Hid (∃ L', near E a1 (l0.drop (k + 1)) (s :: seen) = some L' ∧ (acc ++ [(s, ed)]) ++ L' = L) := ⟨L1, hn1, by rw [← hL]; simp⟩
              have HP2 : Hid (∀ p ∈ acc ++ [(s, ed)], 0 ≤ p.2 ∧ p.2 ≤ 2) := fun p hp => by
                rcases List.mem_append.1 hp with hp | hp
                · exact HP.out p hp
                · rw [List.mem_singleton.1 hp]; exact ⟨hge0, he2⟩
              have HL2 : Hid ((acc ++ [(s, ed)]).length ≤ k + 1) := by
                show _ ≤ _
                rw [List.length_append]; exact Nat.succ_le_succ HL.out
              have HK5 : Hid (acc.length ≤ 5000) := by
                have h_ := HL.out
                show acc.length ≤ 5000
                omega
              clear hn hL HN HL hsn hsf hsm hs hcell0 hTr hr0 hlt hk hge hsz hvR hn1 hn2 hg5 hr5 hs5 hb5 he1 HP
              go_wp2_with (first
                | (go_at_call 23; refine hce.mono ?_; rintro e w6 ⟨rfl, hb6⟩; have HB6 := Lib.hid (below_then HB5.out HB5.out.size hb6); have HR6 := Lib.hid (Kd.R_below HR5.out hb6); have HS6 := Lib.hid (HS5.out.below hb6); clear hb6)
                | ((with_reducible refine gate_builtin (b := .append) (xs := #[.tmp 91, .tmp 95]) rfl ?_); at_builtin; refine Kd.R_append kNr (w0 := w) w.heap.size rfl (.tmp 91) (.tmp 95) 111 114 (.agg #[.string ByteArray.empty, .int .i64 0]) 24 rfl u111 i114 rfl (by decide) (by omega) (.slice A4 acc.length k4) acc (s, ed) (nv (s, ed)) (fun _ => True) (fun _ => False) rfl rfl rfl (fun _ hk => hk.elim) (fun _ _ => trivial) HR6.out HB6.out HB6.out.size (by have := HK5.out; omega) ?_; intro v7 w7 hr7 hb7 hg7 _))
              have HS7 := Lib.hid (HS6.out.overRow HR6.out hg7)
              have HR7 := Lib.hid hr7
              have HB7 := Lib.hid hb7
              clear hg7 hr7 hb7
              go_roundw
              case rel => exact ⟨k + 1, acc ++ [(s, ed)], s :: seen, HK.out, rfl, HN2, HS7, HR7, HP2, HL2, HB7⟩
              case measure => have := HK.out; simp only [intOf, Int.toNat_natCast]; omega
            · rw [if_neg hp] at hn2
              obtain rfl := Option.some.inj hn2
              have HN2 : Hid (∃ L', near E a1 (l0.drop (k + 1)) (s :: seen) = some L' ∧ acc ++ L' = L) := ⟨L1, hn1, hL⟩
              have HL2 : Hid (acc.length ≤ k + 1) := Nat.le_succ_of_le HL.out
              by_cases hz : ec = 0
              · subst hz
                have q1 : decide (ed ≤ 2) = false := decide_eq_false (fun h => hp ⟨rfl, h⟩)
                clear hn hL HN HL hsn hsf hsm hs hcell0 hTr hr0 hlt hk hge hsz hvR hn1 hn2 hg5 hr5 hs5 hb5 he1 hp
                go_wp2_with (first
                  | (go_at_call 23; refine hce.mono ?_; rintro e w6 ⟨rfl, hb6⟩; have HB6 := Lib.hid (below_then HB5.out HB5.out.size hb6); have HR6 := Lib.hid (Kd.R_below HR5.out hb6); have HS6 := Lib.hid (HS5.out.below hb6); clear hb6))
                go_roundw
                case rel => exact ⟨k + 1, acc, s :: seen, HK.out, rfl, HN2, HS6, HR6, HP, HL2, HB6⟩
                case measure => have := HK.out; simp only [intOf, Int.toNat_natCast]; omega
              · have q1 : (ec == 0) = false := beq_eq_false_iff_ne.2 hz
                clear hn hL HN HL hsn hsf hsm hs hcell0 hTr hr0 hlt hk hge hsz hvR hn1 hn2 hg5 hr5 hs5 hb5 he1 hp
                go_wp2_with (first
                  | (go_at_call 23; refine hce.mono ?_; rintro e w6 ⟨rfl, hb6⟩; have HB6 := Lib.hid (below_then HB5.out HB5.out.size hb6); have HR6 := Lib.hid (Kd.R_below HR5.out hb6); have HS6 := Lib.hid (HS5.out.below hb6); clear hb6))
                go_roundw
                case rel => exact ⟨k + 1, acc, s :: seen, HK.out, rfl, HN2, HS6, HR6, HP, HL2, HB6⟩
                case measure => have := HK.out; simp only [intOf, Int.toNat_natCast]; omega
        · obtain rfl : k = l0.length := by omega
          obtain ⟨L', hn, hL⟩ := HN.out
          rw [List.drop_eq_nil_of_le (Nat.le_refl _)] at hn
          unfold near at hn
          obtain rfl := Option.some.inj hn
          rw [List.append_nil] at hL
          subst hL
          have p3 : decide ((l0.length : Int) < (l0.length : Int)) = false := decide_eq_false (by omega)
          have hso := hSort w _ w.heap.size _ acc HB.out HB.out.size HP.out (by have := HL.out; omega) hvR
          clear hn hlt hk HN HM HR hr0 HN0 HC0 HW HP
          obtain ⟨_, _, e9, hk4, hCr⟩ := Kd.R_reads hvR
          injection e9 with e9a _ e9c
          subst e9a e9c
          by_cases hz : acc.length = 0
          · obtain rfl : acc = [] := List.length_eq_zero_iff.1 hz
            clear hvR hCr hz
            have hm0 : min (m : Int) 0 = 0 := by omega
            have hm1 : decide ((m : Int) < 0) = false := decide_eq_false (by omega)
            go_wp2_with (go_at_call 94; refine hso.mono ?_; rintro e w8 ⟨rfl, hb8, hS8, hR8⟩; have HB8 := Lib.hid hb8; have HS8 := Lib.hid hS8; clear hb8 hS8 hR8)
            · have HX := Lib.hid (take_nil (sort []) m HS8.out)
              clear h
              refine wp_loop_rounds 1 ?_
              rw [rounds_succ]
              go_wp2
              go_ret2
              exact ⟨_, rfl, by rw [HX.out]; exact Kd.R_nil _ _ _ _ _, HB8.out⟩
            · obtain rfl := Nat.eq_zero_of_not_pos h
              have HX := Lib.hid (take_nil (sort []) 0 HS8.out)
              clear h
              refine wp_loop_rounds 1 ?_
              rw [rounds_succ]
              go_wp2
              go_ret2
              exact ⟨_, rfl, by rw [HX.out]; exact Kd.R_nil _ _ _ _ _, HB8.out⟩
          · obtain ⟨ad, _, rfl, _⟩ := Kd.C_get hCr (ByteArray.empty, 0) 0 (Int.le_refl _) (by omega)
            have hk0 : k4 ≠ 0 := by omega
            clear hvR hCr
            go_wp2_with (go_at_call 94; refine hso.mono ?_; rintro e w8 ⟨rfl, hb8, hS8, hR8⟩; have HB8 := Lib.hid hb8; have HC8 := Lib.hid hR8; have HS8 := Lib.hid hS8; clear hb8 hS8 hR8)
            · go_loopw [20, 107] (fun v i wq => ∃ j : Nat, j ≤ acc.length ∧ i = .int .i64 j ∧ Hid (Kd.R Kd.string 9 wq w.heap.size (fun _ => True) v (((sort acc).take j).map (fun p => p.1))) ∧ Hid (Below w.heap.size w wq) ∧ Hid (kNr.R 114 wq w.heap.size (fun _ => True) (.slice (some ad) acc.length k4) (sort acc))) (fun _ i _ => acc.length - (intOf i).toNat)
              case atStart => exact ⟨0, Nat.zero_le _, rfl, by rw [List.take_zero]; exact Kd.R_nil _ _ _ _ _, HB8, HC8⟩
              case round =>
                obtain ⟨j, hj, rfl, HR9, HB9, HC9⟩ := hrel
                by_cases hlt : j < acc.length
                · have hS := HS8.out
                  have hjS : j < (sort acc).length := hS ▸ hlt
                  obtain ⟨_, _, e1, _, hCj⟩ := Kd.R_reads HC9.out
                  injection e1 with e1a e1b e1c
                  subst e1a e1c
                  rw [← e1b] at hCj
                  obtain ⟨ad2, c, e2, _, hK, hcells⟩ := Kd.C_get hCj (ByteArray.empty, 0) (j : Int) (nz_lt hlt).1 (nz_lt hlt).2
                  cases e2
                  have hge := getD_some (sort acc) (ByteArray.empty, 0) j hjS
                  have hcc := cells2 (W := wr) (ad := ad) (j := j) hK hcells
                  rw [Int.toNat_natCast] at hcc
                  have htk := take_fst (sort acc) j _ hge
                  generalize (sort acc).getD j (ByteArray.empty, 0) = q at hcc htk
                  obtain ⟨qs, qk⟩ := q
                  obtain ⟨hc1, hc2⟩ := hcc
                  have hln := len_fst (sort acc) j hjS
                  have HJ := Lib.hid hlt
                  have HJ2 := Lib.hid (small_j hlt HL.out h0)
                  have hw1 := wup j HJ2.out
                  have hw2 : IntKind.i64.wrap ((j : Int) + 1) = ((j + 1 : Nat) : Int) := (i64w _).trans hw1
                  have HTK := Lib.hid htk
                  generalize ((sort acc).take j).map (fun p => p.1) = lst at HR9 htk hln HTK
                  have HLN := Lib.hid hln
                  obtain ⟨A9, k9, rfl⟩ := Kd.R_slice HR9.out
                  clear hcells hK hS hge htk hln hj hjS hCj e1b
                  go_wp2_with (first
                    | ((with_reducible refine gate_builtin (b := .append) (xs := #[.tmp 111, .tmp 114]) rfl ?_); at_builtin; refine Kd.R_append Kd.string (w0 := w) w.heap.size rfl (.tmp 111) (.tmp 114) 39 9 (.string ByteArray.empty) 16 rfl u39 i9 rfl (by decide) (by omega) (.slice A9 lst.length k9) lst qs [.string qs] (fun _ => True) (fun _ => False) rfl (by first | (rw [World.size_alloc]; done) | (rw [World.size_alloc]; rfl)) rfl (fun _ hk => hk.elim) (fun _ _ => trivial) (Kd.R_alloc HR9.out _) (below_alloc HB9.out _) (below_alloc HB9.out _).size (len16 HLN.out HJ2.out) ?_; intro v7 w7 hr7 hb7 hg7 _; have HR7 := Lib.hid hr7; have HB7 := Lib.hid hb7; have HC7 := Lib.hid (R_overRow (Kd.R_alloc HC9.out _) (Kd.R_alloc HR9.out _) hg7 no9); clear hg7 hr7 hb7))
                  go_roundw
                  case rel => exact ⟨j + 1, HJ.out, rfl, by rw [HTK.out]; exact HR7.out, HB7, HC7⟩
                  case measure => simp only [intOf, Int.toNat_natCast]; exact meas HJ.out
                · obtain rfl := eq_of_nlt hj hlt
                  have p3 : decide ((acc.length : Int) < (acc.length : Int)) = false := decide_eq_false (Int.lt_irrefl _)
                  have HX := Lib.hid (take_all (sort acc) acc.length m HS8.out h)
                  clear hlt hj h
                  go_wp2
                  go_ret2
                  exact ⟨_, rfl, by rw [← HX.out]; exact HR9.out, HB9.out⟩
            · go_loopw [20, 107] (fun v i wq => ∃ j : Nat, j ≤ m ∧ i = .int .i64 j ∧ Hid (Kd.R Kd.string 9 wq w.heap.size (fun _ => True) v (((sort acc).take j).map (fun p => p.1))) ∧ Hid (Below w.heap.size w wq) ∧ Hid (kNr.R 114 wq w.heap.size (fun _ => True) (.slice (some ad) acc.length k4) (sort acc))) (fun _ i _ => m - (intOf i).toNat)
              case atStart => exact ⟨0, Nat.zero_le _, rfl, by rw [List.take_zero]; exact Kd.R_nil _ _ _ _ _, HB8, HC8⟩
              case round =>
                obtain ⟨j, hj, rfl, HR9, HB9, HC9⟩ := hrel
                by_cases hlt2 : j < m
                · have hlt := lt_of_most hlt2 h
                  have hS := HS8.out
                  have hjS : j < (sort acc).length := hS ▸ hlt
                  obtain ⟨_, _, e1, _, hCj⟩ := Kd.R_reads HC9.out
                  injection e1 with e1a e1b e1c
                  subst e1a e1c
                  rw [← e1b] at hCj
                  obtain ⟨ad2, c, e2, _, hK, hcells⟩ := Kd.C_get hCj (ByteArray.empty, 0) (j : Int) (nz_lt hlt).1 (nz_lt hlt).2
                  cases e2
                  have hge := getD_some (sort acc) (ByteArray.empty, 0) j hjS
                  have hcc := cells2 (W := wr) (ad := ad) (j := j) hK hcells
                  rw [Int.toNat_natCast] at hcc
                  have htk := take_fst (sort acc) j _ hge
                  generalize (sort acc).getD j (ByteArray.empty, 0) = q at hcc htk
                  obtain ⟨qs, qk⟩ := q
                  obtain ⟨hc1, hc2⟩ := hcc
                  have hln := len_fst (sort acc) j hjS
                  have HJ := Lib.hid hlt2
                  have HJ2 := Lib.hid (small_j hlt HL.out h0)
                  have hw1 := wup j HJ2.out
                  have hw2 : IntKind.i64.wrap ((j : Int) + 1) = ((j + 1 : Nat) : Int) := (i64w _).trans hw1
                  have HTK := Lib.hid htk
                  generalize ((sort acc).take j).map (fun p => p.1) = lst at HR9 htk hln HTK
                  have HLN := Lib.hid hln
                  obtain ⟨A9, k9, rfl⟩ := Kd.R_slice HR9.out
                  clear hcells hK hS hge htk hln hj hjS hCj e1b
                  go_wp2_with (first
                    | ((with_reducible refine gate_builtin (b := .append) (xs := #[.tmp 111, .tmp 114]) rfl ?_); at_builtin; refine Kd.R_append Kd.string (w0 := w) w.heap.size rfl (.tmp 111) (.tmp 114) 39 9 (.string ByteArray.empty) 16 rfl u39 i9 rfl (by decide) (by omega) (.slice A9 lst.length k9) lst qs [.string qs] (fun _ => True) (fun _ => False) rfl (by first | (rw [World.size_alloc]; done) | (rw [World.size_alloc]; rfl)) rfl (fun _ hk => hk.elim) (fun _ _ => trivial) (Kd.R_alloc HR9.out _) (below_alloc HB9.out _) (below_alloc HB9.out _).size (len16 HLN.out HJ2.out) ?_; intro v7 w7 hr7 hb7 hg7 _; have HR7 := Lib.hid hr7; have HB7 := Lib.hid hb7; have HC7 := Lib.hid (R_overRow (Kd.R_alloc HC9.out _) (Kd.R_alloc HR9.out _) hg7 no9); clear hg7 hr7 hb7))
                  go_roundw
                  case rel => exact ⟨j + 1, HJ.out, rfl, by rw [HTK.out]; exact HR7.out, HB7, HC7⟩
                  case measure => simp only [intOf, Int.toNat_natCast]; exact meas HJ.out
                · obtain rfl := eq_of_nlt hj hlt2
                  have p3 : decide ((j : Int) < (j : Int)) = false := decide_eq_false (Int.lt_irrefl _)
                  clear hlt2 hj h
                  go_wp2
                  go_ret2
                  exact ⟨_, rfl, HR9.out, HB9.out⟩
end
end
/-! ### SugD -/
section
open Go.RowKit Go.Proofs.YtcokeankiedfcaaDoorW.PrintWords Go.Proofs.YtcokeankiedfcaaDoorW.PrintLast Go.Proofs.YtcokeankiedfcaaDoorW.PrintMore
attribute [local go_sem] max2_int min2_int max_two min_two max_three min_three max_four min_four
section
variable (T : World → Prop) (hTb : ∀ W W', T W → Below W.heap.size W W' → T W')
  (D : ByteArray → Option (List Int × Int)) (hD : ∀ a0 r1 r2 w, T w → D a0 = some (r1, r2) → Calls Tryd.prog 16 #[.string a0] w fun e w' => ∃ v0_ : Value, e = .returned (.tuple #[v0_, .int .i64 r2]) ∧ Kd.R (Kd.int .i64) 3 w' w.heap.size (fun _ => True) v0_ r1 ∧ Below w.heap.size w w')
  (E : ByteArray → ByteArray → Option (Int × Int)) (hE : ∀ a0 a1 r1 r2 w, T w → E a0 a1 = some (r1, r2) → Calls Tryd.prog 23 #[.string a0, .string a1] w fun e w' => e = .returned (.tuple #[.int .i64 r1, .int .i64 r2]) ∧ Below w.heap.size w w')
  (sort : List (ByteArray × Int) → List (ByteArray × Int))
  (hSort : ∀ (w0 W : World) (base : Nat) (v : Value) (L : List (ByteArray × Int)), Below base w0 W → base ≤ W.heap.size → (∀ p ∈ L, 0 ≤ p.2 ∧ p.2 ≤ 2) → L.length ≤ 5000 → Kd.R kNr 114 W base (fun _ => True) v L → Calls Tryd.prog 94 #[v, .func (.func 95) #[] #[]] W fun e w' => e = .returned (.tuple #[]) ∧ Below base w0 w' ∧ (sort L).length = L.length ∧ Kd.R kNr 114 w' base (fun _ => True) v (sort L))
  (A0 : Option Addr) (c0 : Nat) (l0 : List ByteArray) (a1 : ByteArray) (a2 : Int)
include hTb hD
set_option maxRecDepth 1000000 in
set_option maxHeartbeats 4000000 in
theorem rng (w : World) (hT : T w) (hr0 : Kd.C Kd.string w A0 l0.length l0) (hc0 : l0.length ≤ c0) (h0 : ¬ (l0.length : Int) > 4096) (h1 : ¬ (a1.size : Int) > 65536) (hsz : ∀ s ∈ l0, s.size ≤ 65536) (hA : Calls Tryd.prog 92 #[.slice A0 l0.length c0, .func (.func 93) #[] #[]] w fun e w' => e = .returned (.bool false) ∧ Drawn0 w w')
    (x : List Int) (hd : D a1 = some (x, 0)) (hc : chk D l0 = some true) (hx : (x.length : Int) > 200 ∨ a2 < 0 ∨ a2 > 20) : Ret l0 A0 c0 a1 a2 w [] 12 := by
  unfold Ret
  have d0 : decide ((4096 : Int) < (l0.length : Int)) = false := decide_eq_false h0
  have d0b : decide (4096 < l0.length) = false := decide_eq_false (by omega)
  have d0c : (4096 < l0.length) = False := eq_false (by omega)
  have d1 : decide ((65536 : Int) < (a1.size : Int)) = false := decide_eq_false h1
  have d1b : decide (65536 < a1.size) = false := decide_eq_false (by omega)
  have d1c : (65536 < a1.size) = False := eq_false (by omega)
  have hcd := fun nd => hD a1 x 0 (w.drewN nd) (hTb _ _ hT (pw_below_drewN (Below.refl _ _) nd)) hd
  have HC0 := Lib.hid hc
  clear h1 hd hc hsz
  go_enter Tryd.func50, Tryd.ntmps50
  go_wp2_with (first | (go_at_call 92; refine hA.mono ?_; rintro e w' ⟨rfl, ⟨nd, rfl⟩⟩) | (go_at_call 16; refine (hcd _).mono ?_; rintro e w1 ⟨v0, rfl, hR, hb1⟩; obtain ⟨A1, k1, rfl⟩ := Kd.R_slice hR; have HB1 := Lib.hid (below_then (pw_below_drewN (Below.refl _ _) nd) (Nat.le_refl _) hb1); clear hb1 hR))
  clear hA hcd d0 d0b d0c d1 d1b d1c
  go_loopw [44] (fun i wr => ∃ k : Nat, k ≤ l0.length ∧ i = .int .i64 k ∧ Hid (chk D (l0.drop k) = some true) ∧ Hid (Below w.heap.size w wr)) (fun i _ => l0.length - (intOf i).toNat)
  case atStart => exact ⟨0, Nat.zero_le _, rfl, HC0, HB1⟩
  case round =>
    obtain ⟨k, hk, rfl, HC, HB⟩ := hrel
    by_cases hlt : k < l0.length
    · have hTr := hTb _ _ hT HB.out
      obtain ⟨ad, rfl, hcell0⟩ := Kd.at_string hr0 (k : Int) (by omega) (by omega)
      replace hcell0 : w.cell? (ad.add k) = some (.string (l0.getD k ByteArray.empty)) := hcell0
      have hcell := pw_cell_below HB.out hcell0
      have p1 := eq_true (show (0 : Int) ≤ (k : Int) by omega)
      have p2 := eq_true (show (k : Int) < (l0.length : Int) by omega)
      have p3 : decide ((k : Int) < (l0.length : Int)) = true := decide_eq_true (by omega)
      have hw1 := wup k (by omega)
      have hw2 : IntKind.i64.wrap ((k : Int) + 1) = ((k + 1 : Nat) : Int) := (i64w _).trans hw1
      obtain ⟨b, hb, hb2⟩ := Option.bind_eq_some_iff.1 (show (D (l0.getD k ByteArray.empty)).bind (fun b => if b.2 = 0 then chk D (l0.drop (k + 1)) else some false) = some true by
        have h_ := HC.out
        rw [List.drop_eq_getElem_cons hlt] at h_
        rw [List.getD_eq_getElem?_getD, List.getElem?_eq_getElem hlt]
        exact h_)
      obtain ⟨y, cc⟩ := b
      have hcd := hD (l0.getD k ByteArray.empty) y cc wr hTr hb
      simp only at hb2
      by_cases hz : cc = 0
      · subst hz
        rw [if_pos rfl] at hb2
        have HC2 := Lib.hid hb2
        have HK := Lib.hid hlt
        clear hb hb2 hcell0 hTr hr0 hlt hk HC
        go_wp2_with (first | (go_at_call 16; refine hcd.mono ?_; rintro e w2 ⟨v2, rfl, _, hb2⟩; have HB2 := Lib.hid (below_then HB.out HB.out.size hb2); clear hb2))
        go_roundw
        case rel => exact ⟨k + 1, HK.out, rfl, HC2, HB2⟩
        case measure => have := HK.out; simp only [intOf, Int.toNat_natCast]; omega
      · rw [if_neg hz] at hb2
        cases hb2
    · obtain rfl := eq_of_nlt hk hlt
      have p3 : decide ((l0.length : Int) < (l0.length : Int)) = false := decide_eq_false (Int.lt_irrefl _)
      clear hlt hk HC HB1 hr0
      by_cases c1 : 200 < x.length
      · have d2 : decide ((200 : Int) < (x.length : Int)) = true := decide_eq_true (Int.ofNat_lt.2 c1)
        have d2b : decide (200 < x.length) = true := decide_eq_true c1
        have d2c : (200 < x.length) = True := eq_true c1
        clear c1 hx
        go_wp2
        go_ret2
        exact ⟨_, rfl, Kd.R_nil _ _ _ _ _, HB.out⟩
      · have d2 : decide ((200 : Int) < (x.length : Int)) = false := decide_eq_false (fun h => c1 (Int.ofNat_lt.1 h))
        have d2b : decide (200 < x.length) = false := decide_eq_false c1
        have d2c : (200 < x.length) = False := eq_false c1
        by_cases c2 : a2 < 0
        · have d3 : decide (a2 < 0) = true := decide_eq_true c2
          clear c1 c2 hx
          go_wp2
          go_ret2
          exact ⟨_, rfl, Kd.R_nil _ _ _ _ _, HB.out⟩
        · have d3 : decide (a2 < 0) = false := decide_eq_false c2
          have c3 : (20 : Int) < a2 := (hx.resolve_left (fun h => c1 (Int.ofNat_lt.1 h))).resolve_left c2
          have d4 : decide ((20 : Int) < a2) = true := decide_eq_true c3
          clear c1 c2 c3 hx
          go_wp2
          go_ret2
          exact ⟨_, rfl, Kd.R_nil _ _ _ _ _, HB.out⟩
end
end
/-! ### SugE -/
section
open Go.RowKit Go.Sort Go.Proofs.YtcokeankiedfcaaDoorW.PrintWords
def encN (x : Nr) : List Value := nv x.1
theorem agg114 : ∀ w, (isAgg 114).run Tryd.prog w = .ok true w := fun w => by kernel_rfl
theorem size114 : ∀ w, (Go.sizeOf 114).run Tryd.prog w = .ok 2 w := fun w => by kernel_rfl
theorem encN_len (x : Nr) : (encN x).length = 2 := rfl
theorem encN_one (x : Nr) : ∀ v ∈ encN x, v.oneCell' = true := fun v hv => by
  simp only [encN, nv, List.mem_cons, List.not_mem_nil, or_false] at hv
  rcases hv with rfl | rfl <;> rfl
theorem cmpN (blk off size : Nat) (w : World) : CmpLays Tryd.prog 95 #[] encN 2 cf blk off size w := fun m os dk _ x y => by
  have h := clo Tryd.strings_Compare x.1 y.1 x.2 y.2 (sortWorldK encN 2 w blk off m dk os)
  exact h
theorem flat_at (d : Array Nr) (i r : Nat) (hi : i < d.size) (hr : r < 2) : (flatK encN 2 d)[i * 2 + r]! = (nv d[i]!.1)[r]! := by
  rw [get_flatK _ _ _ _ (by omega), show (i * 2 + r) / 2 = i by omega, show (i * 2 + r) % 2 = r by omega]; rfl
theorem val_at (d : Array Nr) (i : Nat) (hi : i < d.size) : (d.toList.map Subtype.val)[i]? = some d[i]!.1 := by
  rw [List.getElem?_map, Array.getElem?_toList, Array.getElem?_eq_getElem hi, getElem!_pos d i hi]; rfl
theorem holdsN {W : World} {base : Nat} {ok : Nat → Prop} {g c : Nat} {d : Array Nr} (h : Kd.R kNr 114 W base ok (.slice (some ⟨g, 0, none⟩) d.size c) (d.toList.map Subtype.val)) : HoldsK encN 2 W g 0 d := by
  obtain ⟨A, c', e, _, hC⟩ := Kd.R_reads h
  injection e with e1 e2 e3
  subst e1
  obtain ⟨cells, hb⟩ := ownBlock_cells h g rfl
  have hlen : (d.toList.map Subtype.val).length = d.size := by rw [List.length_map, Array.length_toList]
  intro j hj
  rw [size_flatK] at hj
  refine ⟨?_, by rw [Nat.zero_add]; exact blk_frozen hb j⟩
  obtain ⟨i, r, hr, rfl⟩ : ∃ i r, r < 2 ∧ j = i * 2 + r := ⟨j / 2, j % 2, Nat.mod_lt _ (by decide), by omega⟩
  have hi : i < d.size := by omega
  obtain ⟨ad, cs, e, _, hK, hcell⟩ := Kd.C_get hC (ByteArray.empty, 0) (i : Int) (by omega) (by rw [hlen]; omega)
  injection e with e
  subst e
  rw [Int.toNat_natCast] at hK hcell
  rw [List.getD_eq_getElem?_getD, val_at d i hi] at hK
  obtain rfl : cs = nv d[i]!.1 := hK
  rw [flat_at d i r hi hr, Nat.zero_add, ← add_plain]
  have h2 : (nv d[i]!.1)[r]? = some (nv d[i]!.1)[r]! := by
    rcases (show r = 0 ∨ r = 1 by omega) with rfl | rfl <;> rfl
  exact hcell r _ h2
theorem ownN {W : World} {base g n c : Nat} {d : Array Nr} {cur : Array Value} (hH : HoldsK encN 2 W g 0 d) (hb : W.heap[g]? = some (.cells cur 114 (0, 0))) (hbase : base ≤ g) (hn : d.size = n) (hnc : n ≤ c) (hc : c ≤ maxLen) (hcur : cur.size = c * 2) :
    Kd.R kNr 114 W base (fun _ => True) (.slice (some ⟨g, 0, none⟩) n c) (d.toList.map Subtype.val) := by
  have hlen : (d.toList.map Subtype.val).length = n := by rw [List.length_map, Array.length_toList, hn]
  refine ⟨fun _ _ => trivial, cur.toList.take (n * 2), ⟨?_, Or.inr ⟨g, c, cur, ?_, hbase, hb, ?_, hc, hcur, ?_⟩⟩, ?_, ?_⟩
  · rw [List.length_take, Array.length_toList, hcur, hlen]
    show min (n * 2) (c * 2) = n * 2
    omega
  · rw [hlen]
  · rw [hlen]; exact hnc
  · rw [hlen]; rfl
  · rw [List.length_take, Array.length_toList, hcur, hlen]
    show min (n * 2) (c * 2) = n * 2
    omega
  · intro i p hp
    have hi : i < d.size := by
      have := (List.getElem?_eq_some_iff.1 hp).1
      omega
    rw [val_at d i hi] at hp
    obtain rfl := Option.some.inj hp
    show ((cur.toList.take (n * 2)).drop (i * 2)).take 2 = nv d[i]!.1
    have hat : ∀ r, r < 2 → cur.toList[i * 2 + r]? = some (nv d[i]!.1)[r]! := fun r hr => by
      have h1 := (hH (i * 2 + r) (by rw [size_flatK]; omega)).1
      rw [Nat.zero_add, blk_cell hb, flat_at d i r hi hr] at h1
      rw [Array.getElem?_toList]; exact h1
    apply List.ext_getElem?
    intro r
    by_cases hr : r < 2
    · rw [List.getElem?_take_of_lt hr, List.getElem?_drop, List.getElem?_take_of_lt (by omega), hat r hr]
      rcases (show r = 0 ∨ r = 1 by omega) with rfl | rfl <;> rfl
    · rw [List.getElem?_take_eq_none (by omega)]
      symm
      exact List.getElem?_eq_none (show (nv d[i]!.1).length ≤ r by show 2 ≤ r; omega)
theorem lift (L : List (ByteArray × Int)) (h : ∀ p ∈ L, 0 ≤ p.2 ∧ p.2 ≤ 2) : ∃ d : Array Nr, d.toList.map Subtype.val = L :=
  ⟨(L.attach.map fun p => ⟨p.1, h p.1 p.2⟩).toArray, by
    rw [List.toList_toArray, List.map_map]
    exact List.attach_map_subtype_val L⟩
def srt (L : List (ByteArray × Int)) : List (ByteArray × Int) := L.mergeSort S_le
theorem sorted (w0 W : World) (base : Nat) (v : Value) (L : List (ByteArray × Int)) (hB : Below base w0 W) (hbW : base ≤ W.heap.size) (hL : ∀ p ∈ L, 0 ≤ p.2 ∧ p.2 ≤ 2) (hn : L.length ≤ 5000) (hR : Kd.R kNr 114 W base (fun _ => True) v L) :
    Calls Tryd.prog 94 #[v, .func (.func 95) #[] #[]] W fun e w' => e = .returned (.tuple #[]) ∧ Below base w0 w' ∧ (srt L).length = L.length ∧ Kd.R kNr 114 w' base (fun _ => True) v (srt L) := by
  obtain ⟨d, rfl⟩ := lift L hL
  have hlen : (d.toList.map Subtype.val).length = d.size := by rw [List.length_map, Array.length_toList]
  have hsl : (srt (d.toList.map Subtype.val)).length = (d.toList.map Subtype.val).length := List.length_mergeSort _
  by_cases hz : d.size = 0
  · obtain ⟨A, c, rfl⟩ := Kd.R_slice hR
    have he : d.toList.map Subtype.val = [] := List.length_eq_zero_iff.1 (by omega)
    rw [he] at hR ⊢
    refine (AnyF.slices_SortFunc_none { Tryd.sortNear with } A c (.func (.func 95) #[] #[]) W).mono ?_
    rintro e w' ⟨rfl, rfl⟩
    have hs0 : srt [] = [] := by unfold srt; exact List.mergeSort_nil
    rw [hs0]
    exact ⟨rfl, hB, rfl, hR⟩
  · have hR0 := hR
    obtain ⟨_, inner, hown, _⟩ := hR0
    obtain ⟨_, ⟨_, h0⟩ | ⟨g, c, cur, rfl, hg, hb, hnc, hcm, hcs, _⟩⟩ := hown
    · omega
    · have hR2 := hR
      rw [hlen] at hR2 hnc
      have hH := holdsN hR2
      have eg : ∀ args w, (callFunc 95 args).run Tryd.prog w = .ok (.enter 95 args) w := enters_of Tryd.func95 (by kernel_rfl) rfl
      have hblk : g < W.heap.size := (Array.getElem?_eq_some_iff.1 hb).1
      rw [hlen]
      refine (AnyQ.slices_SortFunc_total Tryd.sortNear 2 agg114 size114 encN encN_len encN_one cf cf_swo 95 #[] g 0 c d W eg (cmpN _ _ _ _) hH hblk (by omega) cf_tot).mono ?_
      rintro e w' ⟨rfl, n, os, rfl⟩
      have hds : (d.toList.mergeSort fun x y => !(ltOf cf) y x).toArray.size = d.size := by simp [List.length_mergeSort]
      have hm : (d.toList.mergeSort fun x y => !(ltOf cf) y x).toArray.toList.map Subtype.val = srt (d.toList.map Subtype.val) := by rw [List.toList_toArray]; exact sort_map _
      rw [← hm]
      generalize (d.toList.mergeSort fun x y => !(ltOf cf) y x).toArray = d' at hds hm
      have hbig := size_sortWorldK_c encN 2 W g 0 n d' os
      have hblkO : ∀ k, k < W.heap.size → (sortWorldK encN 2 W g 0 n d' os).heap[k]? = (W.heap.modify g (onCells (putCells id 0 (flatK encN 2 d'))))[k]? := fun k hk => by
        unfold sortWorldK
        rw [heap_grow_old _ _ (by rw [size_putRowK]; exact hk)]
        rfl
      have hBB : Below base W (sortWorldK encN 2 W g 0 n d' os) := ⟨rfl, rfl, rfl, hbig, fun k hk => by
        rw [hblkO k (by omega), Array.getElem?_modify, if_neg (by omega)]⟩
      refine ⟨rfl, hB.trans hBB, by rw [hm, hsl, hlen], ?_⟩
      refine ownN (cur := putCells id 0 (flatK encN 2 d') cur) (holdsK_sortWorldK_c encN 2 W g 0 d d' n os hH hblk hds) ?_ hg hds hnc hcm (Array.size_mapIdx.trans hcs)
      rw [hblkO g hblk, Array.getElem?_modify, if_pos rfl, hb]
      rfl
end
end Go.Proofs.YtcokeankiedfcaaDoor.Sug
