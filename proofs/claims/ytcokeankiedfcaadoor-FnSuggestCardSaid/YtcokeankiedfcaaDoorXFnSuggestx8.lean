-- A printed text of this session (wip/x/xprint.py).
import Derived.Test.YtcokeankiedfcaaDoorXFnSuggestx0
import Derived.Test.YtcokeankiedfcaaDoorXFnSuggestx1
import Derived.Test.YtcokeankiedfcaaDoorXFnSuggestx3
namespace Go.Proofs.YtcokeankiedfcaaDoor.XFnSuggest
open Go.RowKit Go.Proofs.YtcokeankiedfcaaDoorW.PrintWords Go.Proofs.YtcokeankiedfcaaDoorW.PrintLast Go.Proofs.YtcokeankiedfcaaDoorW.PrintMore
attribute [local go_sem] leq_str max2_int min2_int max_two min_two max_three min_three max_four min_four   -- for this text's walks alone
set_option linter.unusedVariables false
set_option linter.unusedSimpArgs false

/-! ### impl_Suggest_contains: slices.ContainsFunc (rows of texts) with function 93 -/
section
open Go.Shelf Go.Lib
def impl_Suggest_contains.p (x : ByteArray) : Bool := decide ((65536 : Int) < (x.size : Int))
theorem impl_Suggest_contains.pred (W : World) : PredAt Tryd.prog 93 #[] Value.string impl_Suggest_contains.p W := fun W x hb => by
  show Calls Tryd.prog 93 #[.string x] W _
  by_cases h : (65536 : Int) < (x.size : Int)
  · have hp : impl_Suggest_contains.p x = true := decide_eq_true h
    rw [hp]
    have hd : decide ((x.size : Int) > 65536) = true := decide_eq_true h
    go_enter Tryd.func93, Tryd.ntmps93
    go_wp2
    go_ret; exact ⟨rfl, 0, rfl⟩
  have hp : impl_Suggest_contains.p x = false := decide_eq_false h
  rw [hp]
  have hd : decide ((x.size : Int) > 65536) = false := decide_eq_false h
  go_enter Tryd.func93, Tryd.ntmps93
  go_wp2
  go_ret; exact ⟨rfl, 0, rfl⟩
def impl_Suggest_contains.f (l0 : List ByteArray) : Option (Bool) := some (l0.any impl_Suggest_contains.p)
theorem impl_Suggest_contains.calls (A0 : Option Addr) (c0 : Nat) (l0 : List ByteArray) (r : Bool) (w : World) (hr0 : Kd.C Kd.string w A0 l0.length l0) (hc0 : l0.length ≤ c0) (h : impl_Suggest_contains.f l0 = some r) :
    Calls Tryd.prog 92 #[.slice A0 l0.length c0, .func (.func 93) #[] #[]] w fun e w' => e = .returned (.bool r) ∧ Drawn0 w w' := by
  unfold impl_Suggest_contains.f at h
  obtain rfl := Option.some.inj h
  by_cases hz : l0.length = 0
  · have h0 : l0 = [] := List.length_eq_zero_iff.1 hz
    subst h0
    refine (Tryd.slices_ContainsFunc_empty (α := ByteArray) A0 c0 _ w).mono ?_
    rintro e w' ⟨rfl, rfl⟩
    exact ⟨rfl, Drawn0.refl _⟩
  obtain ⟨ad, e0, hx⟩ := Kd.at_string hr0 0 (by omega) (by omega)
  subst e0
  have h1 : ad.add 0 = ad := by unfold Addr.add; simp
  have h2 : (w.cell? ad).isSome = true := by
    have h3 := hx
    rw [show ((0 : Int)).toNat = 0 from rfl, h1] at h3
    rw [h3]; rfl
  clear hx h1
  obtain ⟨b, off, sp⟩ := ad
  obtain rfl : sp = none := by
    cases sp with
    | none => rfl
    | some x =>
      unfold World.cell? at h2
      split at h2
      · simp at h2
      · cases h2
  clear h2
  have hcell : ∀ j, j < l0.length → w.cell? ⟨b, off + j, none⟩ = some (Value.string l0[j]!) := by
    intro j hj
    obtain ⟨ad', e1, hx'⟩ := Kd.at_string hr0 (j : Int) (by omega) (by omega)
    injection e1 with e1
    subst e1
    have e2 : (⟨b, off, none⟩ : Addr).add ((j : Int)).toNat = ⟨b, off + j, none⟩ := by
      unfold Addr.add
      split <;> simp_all
    rw [e2] at hx'
    rw [hx']
    show some (Value.string (l0.getD ((j : Int)).toNat ByteArray.empty)) = _
    rw [Int.toNat_natCast, getElem!_pos l0 j hj, List.getD_eq_getElem?_getD, List.getElem?_eq_getElem hj]
    rfl
  have hlen : l0.length ≤ 9223372036854775807 := hr0.2.1
  have eg : ∀ args w, (callFunc 93 args).run Tryd.prog w = .ok (.enter 93 args) w := enters_of Tryd.func93 (by kernel_rfl) rfl
  refine (Tryd.slices_ContainsFunc Value.string impl_Suggest_contains.p 93 #[] eg b off l0.length c0 l0 w (impl_Suggest_contains.pred _) (Nat.le_refl _) hlen hcell).mono ?_
  rintro e w' ⟨rfl, q, rfl⟩
  rw [List.take_of_length_le (Nat.le_refl _)]
  exact ⟨rfl, q, rfl⟩
end

/-! ### impl_Suggest: function 50 -/
def impl_Suggest.chk : List ByteArray → Option Bool
  | [] => some true
  | w :: t => (impl_Decode.f w).bind fun b => if b.2 = 0 then impl_Suggest.chk t else some false
def impl_Suggest.near (k : Nat) (x : ByteArray) : List ByteArray → List ByteArray → Option (List (ByteArray × Int))
  | [], _ => some []
  | w :: t, seen => if seen.any (fun s => s.toList == w.toList) = true then impl_Suggest.near k x t seen else ((impl_Edits.f k x w).bind fun b => if 0 ≤ b.1 then ((impl_Suggest.near k x t (w :: seen)).bind fun l => if b.2 = 0 ∧ b.1 ≤ 2 then some ((w, b.1) :: l) else some l) else none)
def impl_Suggest.le (a b : ByteArray × Int) : Bool := decide (a.2 < b.2) || (decide (a.2 = b.2) && !(Op.bytesLess b.1.toList a.1.toList))
def impl_Suggest.sort (l : List (ByteArray × Int)) : List (ByteArray × Int) := l.mergeSort impl_Suggest.le
def impl_Suggest.f (k : Nat) (l0 : List ByteArray) (a1 : ByteArray) (a2 : Int) : Option (List ByteArray × Int) := if (l0.length : Int) > 4096 then some ([], 2) else if (a1.size : Int) > 65536 then some ([], 2) else if l0.any (fun w => decide ((w.size : Int) > 65536)) = true then some ([], 2) else (impl_Decode.f a1).bind fun b => if b.2 = 0 then ((impl_Suggest.chk l0).bind fun c => if c = true then (if (b.1.length : Int) > 200 ∨ a2 < 0 ∨ a2 > 20 then some ([], 12) else ((impl_Suggest.near k a1 l0 []).bind fun l => some (((impl_Suggest.sort l).take a2.toNat).map (fun p => p.1), 0))) else some ([], 3)) else some ([], 3)
theorem impl_Suggest.near_mono (k : Nat) (x : ByteArray) : ∀ (l seen : List ByteArray), LeO (impl_Suggest.near k x l seen) (impl_Suggest.near (k + 1) x l seen)
  | [], _ => LeO.refl _
  | w :: t, seen => by
    unfold impl_Suggest.near
    refine LeO.ite (impl_Suggest.near_mono k x t seen) (LeO.bind (impl_Edits.mono _ _ _) (fun _ => LeO.ite (LeO.bind (impl_Suggest.near_mono k x t _) (fun _ => LeO.refl _)) (LeO.refl _)))
theorem impl_Suggest.mono : ∀ a0 a1 a2 k, LeO (impl_Suggest.f k a0 a1 a2) (impl_Suggest.f (k + 1) a0 a1 a2) := by
  intro a0 a1 a2 k
  unfold impl_Suggest.f
  refine LeO.ite (LeO.refl _) (LeO.ite (LeO.refl _) (LeO.ite (LeO.refl _) (LeO.bind (LeO.refl _) (fun _ => LeO.ite (LeO.bind (LeO.refl _) (fun _ => LeO.ite (LeO.ite (LeO.refl _) (LeO.bind (impl_Suggest.near_mono k _ _ _) (fun _ => LeO.refl _))) (LeO.refl _))) (LeO.refl _)))))
theorem impl_Suggest.chk_eq : ∀ l, Sug.chk impl_Decode.f l = impl_Suggest.chk l
  | [] => rfl
  | w :: t => by
    unfold Sug.chk impl_Suggest.chk
    simp only [impl_Suggest.chk_eq t]
theorem impl_Suggest.near_eq (k : Nat) (x : ByteArray) : ∀ l seen, Sug.near (impl_Edits.f k) x l seen = impl_Suggest.near k x l seen
  | [], _ => rfl
  | w :: t, seen => by
    unfold Sug.near impl_Suggest.near
    simp only [impl_Suggest.near_eq k x t]
theorem impl_Suggest.sort_eq (l : List (ByteArray × Int)) : Sug.srt l = impl_Suggest.sort l := rfl
theorem impl_Suggest.calls (k : Nat) (A0 : Option Addr) (c0 : Nat) (l0 : List ByteArray) (a1 : ByteArray) (a2 : Int) (r1 : List ByteArray) (r2 : Int) (w : World) (hr0 : Kd.C Kd.string w A0 l0.length l0) (hc0 : l0.length ≤ c0) (hT : TabW w) (h : impl_Suggest.f k l0 a1 a2 = some (r1, r2)) :
    Calls Tryd.prog 50 #[.slice A0 l0.length c0, .string a1, .int .i64 a2] w fun e w' => ∃ v0_ : Value, e = .returned (.tuple #[v0_, .int .i64 r2]) ∧ Kd.R Kd.string 9 w' w.heap.size (fun _ => True) v0_ r1 ∧ Below w.heap.size w w' := by
  have hD : ∀ (a0 : ByteArray) (r1 : List Int) (r2 : Int) (w : World), TabW w → impl_Decode.f a0 = some (r1, r2) → Calls Tryd.prog 16 #[.string a0] w fun e w' => ∃ v0_ : Value, e = .returned (.tuple #[v0_, .int .i64 r2]) ∧ Kd.R (Kd.int .i64) 3 w' w.heap.size (fun _ => True) v0_ r1 ∧ Below w.heap.size w w' := fun a0 r1 r2 w hT h => impl_Decode.calls a0 r1 r2 w hT h
  have hE : ∀ (a0 a1 : ByteArray) (r1 r2 : Int) (w : World), TabW w → impl_Edits.f k a0 a1 = some (r1, r2) → Calls Tryd.prog 23 #[.string a0, .string a1] w fun e w' => e = .returned (.tuple #[.int .i64 r1, .int .i64 r2]) ∧ Below w.heap.size w w' := fun a0 a1 r1 r2 w hT h => impl_Edits.calls k a0 a1 r1 r2 w hT h
  have hTb : ∀ W W', TabW W → Below W.heap.size W W' → TabW W' := fun W W' h hb => TabW.below h hb
  unfold impl_Suggest.f at h
  show Sug.Ret l0 A0 c0 a1 a2 w r1 r2
  by_cases g0 : (l0.length : Int) > 4096
  · rw [if_pos g0] at h
    obtain ⟨rfl, rfl⟩ := Prod.mk.inj (Option.some.inj h)
    exact Sug.long1 A0 c0 l0 a1 a2 w g0
  rw [if_neg g0] at h
  by_cases g1 : (a1.size : Int) > 65536
  · rw [if_pos g1] at h
    obtain ⟨rfl, rfl⟩ := Prod.mk.inj (Option.some.inj h)
    exact Sug.long2 A0 c0 l0 a1 a2 w g0 g1
  rw [if_neg g1] at h
  have hA := fun b => impl_Suggest_contains.calls A0 c0 l0 b w hr0 hc0
  by_cases g2 : l0.any (fun w => decide ((w.size : Int) > 65536)) = true
  · rw [if_pos g2] at h
    obtain ⟨rfl, rfl⟩ := Prod.mk.inj (Option.some.inj h)
    exact Sug.long3 A0 c0 l0 a1 a2 w g0 g1 (hA true (congrArg some g2))
  rw [if_neg g2] at h
  have hsz : ∀ s ∈ l0, s.size ≤ 65536 := fun s hs => by
    by_cases c : s.size ≤ 65536
    · exact c
    exact absurd (List.any_eq_true.2 ⟨s, hs, decide_eq_true (show (s.size : Int) > 65536 by omega)⟩) g2
  have hA0 := hA false (congrArg some (Bool.eq_false_iff.2 g2))
  clear hA
  obtain ⟨⟨x, c⟩, hd, h⟩ := Option.bind_eq_some_iff.1 h
  by_cases g3 : c = 0
  rotate_left
  · rw [if_neg g3] at h
    obtain ⟨rfl, rfl⟩ := Prod.mk.inj (Option.some.inj h)
    exact Sug.bad1 TabW hTb impl_Decode.f hD A0 c0 l0 a1 a2 w hT g0 g1 hA0 x c hd g3

  subst g3
  rw [if_pos rfl] at h
  obtain ⟨b, hb, h⟩ := Option.bind_eq_some_iff.1 h
  have hchk := (impl_Suggest.chk_eq l0).trans hb
  cases b with
  | false =>
    rw [if_neg Bool.false_ne_true] at h
    obtain ⟨rfl, rfl⟩ := Prod.mk.inj (Option.some.inj h)
    exact Sug.bad2 TabW hTb impl_Decode.f hD A0 c0 l0 a1 a2 w hT hr0 hc0 g0 g1 hA0 x hd hchk
  | true =>
    rw [if_pos rfl] at h
    by_cases g4 : (x.length : Int) > 200 ∨ a2 < 0 ∨ a2 > 20
    · rw [if_pos g4] at h
      obtain ⟨rfl, rfl⟩ := Prod.mk.inj (Option.some.inj h)
      exact Sug.rng TabW hTb impl_Decode.f hD A0 c0 l0 a1 a2 w hT hr0 hc0 g0 g1 hsz hA0 x hd hchk g4
    rw [if_neg g4] at h
    obtain ⟨L, hL, h⟩ := Option.bind_eq_some_iff.1 h
    obtain ⟨rfl, rfl⟩ := Prod.mk.inj (Option.some.inj h)
    obtain ⟨m, rfl⟩ : ∃ m : Nat, a2 = (m : Int) := ⟨a2.toNat, by omega⟩
    rw [Int.toNat_natCast, ← impl_Suggest.sort_eq]
    exact Sug.good TabW hTb impl_Decode.f hD (impl_Edits.f k) hE Sug.srt Sug.sorted A0 c0 l0 a1 w hT hr0 hc0 g0 g1 hsz hA0 x hd hchk (by omega) m (by omega) L ((impl_Suggest.near_eq k a1 l0 []).trans hL)
/-- A state of type 127 at block g of W; what its slices lead to came in by w0. -/
def IsS127 (w0 W : World) (g : Nat) (f0 : List Int) (f1 : Int) (f2 : Int) : Prop := ∃ A0 c0, W.heap[g]? = some (.cells #[.slice A0 f0.length c0, .int .i64 f1, .int .i64 f2] 127 (0, 0)) ∧ w0.heap.size ≤ g ∧ (Kd.C (Kd.int .u8) w0 A0 f0.length f0 ∧ f0.length ≤ c0)
theorem IsS127.grown {w0 W : World} {g : Nat} {f0 : List Int} {f1 : Int} {f2 : Int} {W1 : World} {row : Option Nat} (h : IsS127 w0 W g f0 f1 f2) (hw : W.grownBy W1 row) (hne : some g ≠ row) : IsS127 w0 W1 g f0 f1 f2 := by
  obtain ⟨A0, c0, hb, hg, hr0⟩ := h
  exact ⟨A0, c0, blk_grown hb hw hne, hg, hr0⟩
theorem IsS127.own_neN {w0 W : World} {g : Nat} {f0 : List Int} {f1 : Int} {f2 : Int} {α : Type} {d : Kd α} {e : Nat} {base : Nat} {ok : Nat → Prop} {v : Value} {xs : List α} (h : IsS127 w0 W g f0 f1 f2) (ho : Kd.N d e W base ok v xs) (ht : e ≠ 127) : some g ≠ v.ownBlock := by
  obtain ⟨A0, c0, hb, hg, hr0⟩ := h
  exact Kd.N_ne ho hb ht
theorem IsS127.fresh {w0 W : World} {g : Nat} {f0 : List Int} {f1 : Int} {f2 : Int} (h : IsS127 w0 W g f0 f1 f2) : ∀ k, W.heap.size ≤ k → k ≠ g := by
  obtain ⟨A0, c0, hb, hg, hr0⟩ := h
  exact Kd.freshB hb
theorem IsS127.kept {w0 W : World} {g : Nat} {f0 : List Int} {f1 : Int} {f2 : Int} {W1 : World} {S : Nat → Prop} (h : IsS127 w0 W g f0 f1 f2) (hk : Kept W W1 S) (hne : ¬ S g) : IsS127 w0 W1 g f0 f1 f2 := by
  obtain ⟨A0, c0, hb, hg, hr0⟩ := h
  exact ⟨A0, c0, blk_kept hb hk hne, hg, hr0⟩
theorem IsS127.below {w0 W : World} {g : Nat} {f0 : List Int} {f1 : Int} {f2 : Int} {W1 : World} (h : IsS127 w0 W g f0 f1 f2) (hw : Below W.heap.size W W1) : IsS127 w0 W1 g f0 f1 f2 := h.grown (grown_of_below hw none) (by simp)
theorem IsS127.alloc {w0 W : World} {g : Nat} {f0 : List Int} {f1 : Int} {f2 : Int} (h : IsS127 w0 W g f0 f1 f2) (o : Obj) : IsS127 w0 (W.alloc o) g f0 f1 f2 := h.below (below_alloc (Below.refl _ _) o)
theorem IsS127.drewN {w0 W : World} {g : Nat} {f0 : List Int} {f1 : Int} {f2 : Int} (h : IsS127 w0 W g f0 f1 f2) (m : Nat) : IsS127 w0 (W.drewN m) g f0 f1 f2 := h
theorem IsS127.drew {w0 W : World} {g : Nat} {f0 : List Int} {f1 : Int} {f2 : Int} (h : IsS127 w0 W g f0 f1 f2) : IsS127 w0 W.drew g f0 f1 f2 := h
theorem IsS127.at_ {w0 W : World} {g : Nat} {f0 : List Int} {f1 : Int} {f2 : Int} {w' : World} {m : Nat} (hq : W.drewN m = w') (h : IsS127 w0 W g f0 f1 f2) : IsS127 w0 w' g f0 f1 f2 := by subst hq; exact IsS127.drewN h m
theorem IsS127.apart {w0 W : World} {g : Nat} {f0 : List Int} {f1 : Int} {f2 : Int} {α : Type} {d : Kd α} {e : Nat} {base : Nat} {ok : Nat → Prop} {v : Value} {xs : List α} (h : IsS127 w0 W g f0 f1 f2) (ho : d.R e W base ok v xs) (ht : ∀ q, q ∈ e :: d.E → q ≠ 127) : d.R e W base (fun k => ok k ∧ k ≠ g) v xs := by
  obtain ⟨A0, c0, hb, hg, hr0⟩ := h
  exact Kd.R_types ho hb ht
theorem IsS127.own_ne {w0 W : World} {g : Nat} {f0 : List Int} {f1 : Int} {f2 : Int} {α : Type} {d : Kd α} {e : Nat} {base : Nat} {ok : Nat → Prop} {v : Value} {xs : List α} (h : IsS127 w0 W g f0 f1 f2) (ho : d.R e W base ok v xs) (ht : e ≠ 127) : some g ≠ v.ownBlock := by
  obtain ⟨A0, c0, hb, hg, hr0⟩ := h
  exact Kd.R_ne ho hb ht
theorem IsS127.apartQ {w0 W : World} {g : Nat} {f0 : List Int} {f1 : Int} {f2 : Int} {α : Type} {d : Kd α} {e : Nat} {base : Nat} {ok : Nat → Prop} {v : Value} {xs : List α} (h : IsS127 w0 W g f0 f1 f2) (ho : d.Q e W base ok v xs) (ht : ∀ q, q ∈ e :: d.E → q ≠ 127) : d.Q e W base (fun k => ok k ∧ k ≠ g) v xs := by
  obtain ⟨A0, c0, hb, hg, hr0⟩ := h
  exact Kd.Q_types ho hb ht
theorem IsS127.own_neQ {w0 W : World} {g : Nat} {f0 : List Int} {f1 : Int} {f2 : Int} {α : Type} {d : Kd α} {e : Nat} {base : Nat} {ok : Nat → Prop} {v : Value} {xs : List α} (h : IsS127 w0 W g f0 f1 f2) (ho : d.Q e W base ok v xs) (ht : e ≠ 127) : some g ≠ v.ownBlock := by
  obtain ⟨A0, c0, hb, hg, hr0⟩ := h
  exact Kd.Q_ne ho hb ht
theorem IsS127.apartS {w0 W : World} {g : Nat} {f0 : List Int} {f1 : Int} {f2 : Int} {α : Type} {d : Kd α} {e : Nat} {base : Nat} {ok : Nat → Prop} {v : Value} {xs : List α} (h : IsS127 w0 W g f0 f1 f2) (ho : d.S e W base ok v xs) (ht : ∀ q, q ∈ e :: d.E → q ≠ 127) : d.S e W base (fun k => ok k ∧ k ≠ g) v xs := by
  obtain ⟨A0, c0, hb, hg, hr0⟩ := h
  exact Kd.S_types ho hb ht
theorem IsS127.own_neS {w0 W : World} {g : Nat} {f0 : List Int} {f1 : Int} {f2 : Int} {α : Type} {d : Kd α} {e : Nat} {base : Nat} {ok : Nat → Prop} {v : Value} {xs : List α} (h : IsS127 w0 W g f0 f1 f2) (ho : d.S e W base ok v xs) (ht : e ≠ 127) : some g ≠ v.ownBlock := by
  obtain ⟨A0, c0, hb, hg, hr0⟩ := h
  exact Kd.S_ne ho hb ht
theorem IsS127.lt {w0 W : World} {g : Nat} {f0 : List Int} {f1 : Int} {f2 : Int} (h : IsS127 w0 W g f0 f1 f2) : g < W.heap.size := by
  obtain ⟨A0, c0, hb, hg, hr0⟩ := h
  exact blk_lt hb
theorem IsS127.ge {w0 W : World} {g : Nat} {f0 : List Int} {f1 : Int} {f2 : Int} (h : IsS127 w0 W g f0 f1 f2) : w0.heap.size ≤ g := by
  obtain ⟨A0, c0, hb, hg, hr0⟩ := h
  exact hg
theorem IsS127.ne_blk {w0 W : World} {g : Nat} {f0 : List Int} {f1 : Int} {f2 : Int} {a : Nat} {cs : Array Value} {t : TypeId} {fr : Nat × Nat} (h : IsS127 w0 W g f0 f1 f2) (hb2 : W.heap[a]? = some (.cells cs t fr)) (ht : t ≠ 127) : g ≠ a := by
  obtain ⟨A0, c0, hb, hg, hr0⟩ := h
  rintro rfl
  rw [hb] at hb2
  injection hb2 with hb2
  injection hb2 with _ ht2
  exact ht ht2.symm
theorem IsS127.far {w0 W : World} {g : Nat} {f0 : List Int} {f1 : Int} {f2 : Int} {p : Addr} (h : IsS127 w0 W g f0 f1 f2) (hne : g ≠ p.block) (u : Value) : IsS127 w0 (W.setCell p u) g f0 f1 f2 := by
  obtain ⟨A0, c0, hb, hg, hr0⟩ := h
  exact ⟨A0, c0, blk_far hb hne u, hg, hr0⟩
theorem cellS127_0 {W : World} {g : Nat} {A0 : Option Addr} {c0 : Nat} {f0 : List Int} {f1 : Int} {f2 : Int} (h : W.heap[g]? = some (.cells #[.slice A0 f0.length c0, .int .i64 f1, .int .i64 f2] 127 (0, 0))) : W.cell? ⟨g, 0, none⟩ = some (.slice A0 f0.length c0) := (blk_cell h 0).trans rfl
theorem cellS127_1 {W : World} {g : Nat} {A0 : Option Addr} {c0 : Nat} {f0 : List Int} {f1 : Int} {f2 : Int} (h : W.heap[g]? = some (.cells #[.slice A0 f0.length c0, .int .i64 f1, .int .i64 f2] 127 (0, 0))) : W.cell? ⟨g, 1, none⟩ = some (.int .i64 f1) := (blk_cell h 1).trans rfl
theorem IsS127.set_1 {w0 W : World} {g : Nat} {f0 : List Int} {f1 : Int} {f2 : Int} (h : IsS127 w0 W g f0 f1 f2) (x : Int) : IsS127 w0 (W.setCell ⟨g, 1, none⟩ (.int .i64 x)) g f0 x f2 := by
  obtain ⟨A0, c0, hb, hg, hr0⟩ := h
  exact ⟨A0, c0, by simpa using blk_set hb 1 (.int .i64 x), hg, hr0⟩
theorem cellS127_2 {W : World} {g : Nat} {A0 : Option Addr} {c0 : Nat} {f0 : List Int} {f1 : Int} {f2 : Int} (h : W.heap[g]? = some (.cells #[.slice A0 f0.length c0, .int .i64 f1, .int .i64 f2] 127 (0, 0))) : W.cell? ⟨g, 2, none⟩ = some (.int .i64 f2) := (blk_cell h 2).trans rfl
theorem IsS127.set_2 {w0 W : World} {g : Nat} {f0 : List Int} {f1 : Int} {f2 : Int} (h : IsS127 w0 W g f0 f1 f2) (x : Int) : IsS127 w0 (W.setCell ⟨g, 2, none⟩ (.int .i64 x)) g f0 f1 x := by
  obtain ⟨A0, c0, hb, hg, hr0⟩ := h
  exact ⟨A0, c0, by simpa using blk_set hb 2 (.int .i64 x), hg, hr0⟩
theorem IsS127.new (w0 W : World) (A0 : Option Addr) (c0 : Nat) (f0 : List Int) (f1 : Int) (f2 : Int) (hB : Below w0.heap.size w0 W) (hr0 : (Kd.C (Kd.int .u8) w0 A0 f0.length f0 ∧ f0.length ≤ c0)) : IsS127 w0 (W.alloc (.cells #[.slice A0 f0.length c0, .int .i64 f1, .int .i64 f2] 127)) W.heap.size f0 f1 f2 := ⟨A0, c0, by simpa using heap_alloc_new W _, hB.size, hr0⟩

theorem zi127 {V : World} {w0 W : World} {g : Nat} {f0 : List Int} {f1 : Int} {f2 : Int} {f0' : List Int} {f1' : Int} {f2' : Int} (h : Aside0 (IsS127 w0 W g f0 f1 f2)) (hv : IsS127 w0 W g f0 f1 f2 → IsS127 w0 V g f0' f1' f2' := by intro h_; repeat (first | (with_reducible first | exact h_ | apply IsS127.alloc | apply IsS127.drewN | apply IsS127.drew | apply IsS127.set_1 | apply IsS127.set_2 | refine IsS127.far ?_ (Aside0.out (by assumption)) _) | exact h_)) : IsS127 w0 V g f0' f1' f2' := hv h.out
theorem zj127 {B : Nat} {w W V : World} (h : Aside0 (Below B w W)) (hv : Below B w W → Below B w V := by intro h_; repeat (first | (with_reducible first | exact h_ | apply below_alloc | apply pw_below_drewN | apply below_drew1 | refine below_set ?_ (Aside0.out (by assumption)) | refine below_set ?_ (IsS127.ge (Aside0.out (by assumption)))) | exact h_)) : Below B w V := hv h.out
/-! ### spec_l01Source: function 58 -/
def spec_l01Source.f (l0 : List Int) : Option (List Int × Int × Int) := some (l0, 0, (l0.length : Int) % 1000)
set_option maxHeartbeats 8000000 in
set_option maxRecDepth 100000 in
theorem spec_l01Source.calls (A0 : Option Addr) (c0 : Nat) (l0 : List Int) (r1 : List Int) (r2 : Int) (r3 : Int) (w0 w : World) (hB : Below w0.heap.size w0 w) (hr0 : Kd.C (Kd.int .u8) w0 A0 l0.length l0) (hc0 : l0.length ≤ c0) (h : spec_l01Source.f l0 = some (r1, r2, r3)) :
    Calls Tryd.prog 58 #[.slice A0 l0.length c0] w fun e w' => ∃ g_ : Nat, e = .returned (.pointer (some ⟨g_, 0, none⟩)) ∧ IsS127 w0 w' g_ r1 r2 r3 ∧ Below w0.heap.size w0 w' ∧ Below w.heap.size w w' := by
  have hu127 := Tryd.underlying127
  have HR0 := Aside0.mk hr0
  have HC0 := Aside0.mk hc0
  clear hr0 hc0
  have HBW := Aside0.mk (Below.refl w.heap.size w)
  have HW0 := Aside0.mk hB.size
  have HB := Aside0.mk hB
  clear hB
  have H := h
  unfold spec_l01Source.f at H
  clear h
  simp only [Option.some.injEq, Prod.mk.injEq] at H
  obtain ⟨rfl, rfl, rfl⟩ := H
  go_enter Tryd.func58, Tryd.ntmps58
  go_wp2_with (first | ((with_reducible refine gate_dst (N := 8) rfl ?_); refine box_event (by rfl) (N := 8) (by rfl) (cs := #[.slice A0 l0.length c0, .int .i64 0, .int .i64 ((l0.length : Int) % 1000)]) (t := 127) zgs ?_; intro gb265 hg w2 hbox hb; replace HB := Aside0.mk (below_step (zh HB) hb); have BK265 := Aside0.mk (hbox); have GW265 := zge hg (below_size (zh HBW)); have GE265 := Aside0.mk ((Nat.le_trans HW0.out (by rw [hg]; exact (below_size (zh HBW)) : w.heap.size ≤ gb265) : w0.heap.size ≤ gb265)); replace HBW := Aside0.mk (below_step HBW.out hb); clear hb hbox hg))
  go_ret
  exact ⟨_, rfl, (show IsS127 w0 _ gb265 l0 0 ((l0.length : Int) % 1000) from ⟨_, _, by (with_reducible repeat (first | refine blk_drewN ?_ _ | refine blk_drew ?_ | refine blk_alloc ?_ _)); exact BK265.out, GE265.out, ⟨HR0.out, HC0.out⟩⟩), zg HB, zg HBW⟩

end Go.Proofs.YtcokeankiedfcaaDoor.XFnSuggest
