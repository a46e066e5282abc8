-- A printed text of this session (wip/x/xprint.py).
import Derived.Test.YtnpdmleglcbobaaXFnExactReadLogx0
import Derived.Test.YtnpdmleglcbobaaXFnExactReadLogx1
namespace Go.Proofs.Ytnpdmleglcbobaa.XFnExactReadLog
open Go.RowKit Go.Proofs.YtnpdmleglcbobaaW.PrintWords Go.Proofs.YtnpdmleglcbobaaW.PrintLast Go.Proofs.YtnpdmleglcbobaaW.PrintMore
attribute [local go_sem] max2_int min2_int max_two min_two max_three min_three max_four min_four   -- for this text's walks alone
set_option linter.unusedVariables false
set_option linter.unusedSimpArgs false

/-- A state of type 78 at block g of W; what its slices lead to came in by w0. -/
def IsS78 (w0 W : World) (g : Nat) (f0 : List Int) (f1 : Int) (f2 : Bool) : Prop := ∃ A0 c0, W.heap[g]? = some (.cells #[.slice A0 f0.length c0, .int .i64 f1, .bool f2] 78 (0, 0)) ∧ w0.heap.size ≤ g ∧ (Kd.C (Kd.int .u8) w0 A0 f0.length f0 ∧ f0.length ≤ c0)
theorem IsS78.grown {w0 W : World} {g : Nat} {f0 : List Int} {f1 : Int} {f2 : Bool} {W1 : World} {row : Option Nat} (h : IsS78 w0 W g f0 f1 f2) (hw : W.grownBy W1 row) (hne : some g ≠ row) : IsS78 w0 W1 g f0 f1 f2 := by
  obtain ⟨A0, c0, hb, hg, hr0⟩ := h
  exact ⟨A0, c0, blk_grown hb hw hne, hg, hr0⟩
theorem IsS78.own_neN {w0 W : World} {g : Nat} {f0 : List Int} {f1 : Int} {f2 : Bool} {α : Type} {d : Kd α} {e : Nat} {base : Nat} {ok : Nat → Prop} {v : Value} {xs : List α} (h : IsS78 w0 W g f0 f1 f2) (ho : Kd.N d e W base ok v xs) (ht : e ≠ 78) : some g ≠ v.ownBlock := by
  obtain ⟨A0, c0, hb, hg, hr0⟩ := h
  exact Kd.N_ne ho hb ht
theorem IsS78.fresh {w0 W : World} {g : Nat} {f0 : List Int} {f1 : Int} {f2 : Bool} (h : IsS78 w0 W g f0 f1 f2) : ∀ k, W.heap.size ≤ k → k ≠ g := by
  obtain ⟨A0, c0, hb, hg, hr0⟩ := h
  exact Kd.freshB hb
theorem IsS78.kept {w0 W : World} {g : Nat} {f0 : List Int} {f1 : Int} {f2 : Bool} {W1 : World} {S : Nat → Prop} (h : IsS78 w0 W g f0 f1 f2) (hk : Kept W W1 S) (hne : ¬ S g) : IsS78 w0 W1 g f0 f1 f2 := by
  obtain ⟨A0, c0, hb, hg, hr0⟩ := h
  exact ⟨A0, c0, blk_kept hb hk hne, hg, hr0⟩
theorem IsS78.below {w0 W : World} {g : Nat} {f0 : List Int} {f1 : Int} {f2 : Bool} {W1 : World} (h : IsS78 w0 W g f0 f1 f2) (hw : Below W.heap.size W W1) : IsS78 w0 W1 g f0 f1 f2 := h.grown (grown_of_below hw none) (by simp)
theorem IsS78.alloc {w0 W : World} {g : Nat} {f0 : List Int} {f1 : Int} {f2 : Bool} (h : IsS78 w0 W g f0 f1 f2) (o : Obj) : IsS78 w0 (W.alloc o) g f0 f1 f2 := h.below (below_alloc (Below.refl _ _) o)
theorem IsS78.drewN {w0 W : World} {g : Nat} {f0 : List Int} {f1 : Int} {f2 : Bool} (h : IsS78 w0 W g f0 f1 f2) (m : Nat) : IsS78 w0 (W.drewN m) g f0 f1 f2 := h
theorem IsS78.drew {w0 W : World} {g : Nat} {f0 : List Int} {f1 : Int} {f2 : Bool} (h : IsS78 w0 W g f0 f1 f2) : IsS78 w0 W.drew g f0 f1 f2 := h
theorem IsS78.at_ {w0 W : World} {g : Nat} {f0 : List Int} {f1 : Int} {f2 : Bool} {w' : World} {m : Nat} (hq : W.drewN m = w') (h : IsS78 w0 W g f0 f1 f2) : IsS78 w0 w' g f0 f1 f2 := by subst hq; exact IsS78.drewN h m
theorem IsS78.apart {w0 W : World} {g : Nat} {f0 : List Int} {f1 : Int} {f2 : Bool} {α : Type} {d : Kd α} {e : Nat} {base : Nat} {ok : Nat → Prop} {v : Value} {xs : List α} (h : IsS78 w0 W g f0 f1 f2) (ho : d.R e W base ok v xs) (ht : ∀ q, q ∈ e :: d.E → q ≠ 78) : d.R e W base (fun k => ok k ∧ k ≠ g) v xs := by
  obtain ⟨A0, c0, hb, hg, hr0⟩ := h
  exact Kd.R_types ho hb ht
theorem IsS78.own_ne {w0 W : World} {g : Nat} {f0 : List Int} {f1 : Int} {f2 : Bool} {α : Type} {d : Kd α} {e : Nat} {base : Nat} {ok : Nat → Prop} {v : Value} {xs : List α} (h : IsS78 w0 W g f0 f1 f2) (ho : d.R e W base ok v xs) (ht : e ≠ 78) : some g ≠ v.ownBlock := by
  obtain ⟨A0, c0, hb, hg, hr0⟩ := h
  exact Kd.R_ne ho hb ht
theorem IsS78.apartQ {w0 W : World} {g : Nat} {f0 : List Int} {f1 : Int} {f2 : Bool} {α : Type} {d : Kd α} {e : Nat} {base : Nat} {ok : Nat → Prop} {v : Value} {xs : List α} (h : IsS78 w0 W g f0 f1 f2) (ho : d.Q e W base ok v xs) (ht : ∀ q, q ∈ e :: d.E → q ≠ 78) : d.Q e W base (fun k => ok k ∧ k ≠ g) v xs := by
  obtain ⟨A0, c0, hb, hg, hr0⟩ := h
  exact Kd.Q_types ho hb ht
theorem IsS78.own_neQ {w0 W : World} {g : Nat} {f0 : List Int} {f1 : Int} {f2 : Bool} {α : Type} {d : Kd α} {e : Nat} {base : Nat} {ok : Nat → Prop} {v : Value} {xs : List α} (h : IsS78 w0 W g f0 f1 f2) (ho : d.Q e W base ok v xs) (ht : e ≠ 78) : some g ≠ v.ownBlock := by
  obtain ⟨A0, c0, hb, hg, hr0⟩ := h
  exact Kd.Q_ne ho hb ht
theorem IsS78.apartS {w0 W : World} {g : Nat} {f0 : List Int} {f1 : Int} {f2 : Bool} {α : Type} {d : Kd α} {e : Nat} {base : Nat} {ok : Nat → Prop} {v : Value} {xs : List α} (h : IsS78 w0 W g f0 f1 f2) (ho : d.S e W base ok v xs) (ht : ∀ q, q ∈ e :: d.E → q ≠ 78) : d.S e W base (fun k => ok k ∧ k ≠ g) v xs := by
  obtain ⟨A0, c0, hb, hg, hr0⟩ := h
  exact Kd.S_types ho hb ht
theorem IsS78.own_neS {w0 W : World} {g : Nat} {f0 : List Int} {f1 : Int} {f2 : Bool} {α : Type} {d : Kd α} {e : Nat} {base : Nat} {ok : Nat → Prop} {v : Value} {xs : List α} (h : IsS78 w0 W g f0 f1 f2) (ho : d.S e W base ok v xs) (ht : e ≠ 78) : some g ≠ v.ownBlock := by
  obtain ⟨A0, c0, hb, hg, hr0⟩ := h
  exact Kd.S_ne ho hb ht
theorem IsS78.lt {w0 W : World} {g : Nat} {f0 : List Int} {f1 : Int} {f2 : Bool} (h : IsS78 w0 W g f0 f1 f2) : g < W.heap.size := by
  obtain ⟨A0, c0, hb, hg, hr0⟩ := h
  exact blk_lt hb
theorem IsS78.ge {w0 W : World} {g : Nat} {f0 : List Int} {f1 : Int} {f2 : Bool} (h : IsS78 w0 W g f0 f1 f2) : w0.heap.size ≤ g := by
  obtain ⟨A0, c0, hb, hg, hr0⟩ := h
  exact hg
theorem IsS78.ne_blk {w0 W : World} {g : Nat} {f0 : List Int} {f1 : Int} {f2 : Bool} {a : Nat} {cs : Array Value} {t : TypeId} {fr : Nat × Nat} (h : IsS78 w0 W g f0 f1 f2) (hb2 : W.heap[a]? = some (.cells cs t fr)) (ht : t ≠ 78) : g ≠ a := by
  obtain ⟨A0, c0, hb, hg, hr0⟩ := h
  rintro rfl
  rw [hb] at hb2
  injection hb2 with hb2
  injection hb2 with _ ht2
  exact ht ht2.symm
theorem IsS78.far {w0 W : World} {g : Nat} {f0 : List Int} {f1 : Int} {f2 : Bool} {p : Addr} (h : IsS78 w0 W g f0 f1 f2) (hne : g ≠ p.block) (u : Value) : IsS78 w0 (W.setCell p u) g f0 f1 f2 := by
  obtain ⟨A0, c0, hb, hg, hr0⟩ := h
  exact ⟨A0, c0, blk_far hb hne u, hg, hr0⟩
theorem cellS78_0 {W : World} {g : Nat} {A0 : Option Addr} {c0 : Nat} {f0 : List Int} {f1 : Int} {f2 : Bool} (h : W.heap[g]? = some (.cells #[.slice A0 f0.length c0, .int .i64 f1, .bool f2] 78 (0, 0))) : W.cell? ⟨g, 0, none⟩ = some (.slice A0 f0.length c0) := (blk_cell h 0).trans rfl
theorem cellS78_1 {W : World} {g : Nat} {A0 : Option Addr} {c0 : Nat} {f0 : List Int} {f1 : Int} {f2 : Bool} (h : W.heap[g]? = some (.cells #[.slice A0 f0.length c0, .int .i64 f1, .bool f2] 78 (0, 0))) : W.cell? ⟨g, 1, none⟩ = some (.int .i64 f1) := (blk_cell h 1).trans rfl
theorem IsS78.set_1 {w0 W : World} {g : Nat} {f0 : List Int} {f1 : Int} {f2 : Bool} (h : IsS78 w0 W g f0 f1 f2) (x : Int) : IsS78 w0 (W.setCell ⟨g, 1, none⟩ (.int .i64 x)) g f0 x f2 := by
  obtain ⟨A0, c0, hb, hg, hr0⟩ := h
  exact ⟨A0, c0, by simpa using blk_set hb 1 (.int .i64 x), hg, hr0⟩
theorem cellS78_2 {W : World} {g : Nat} {A0 : Option Addr} {c0 : Nat} {f0 : List Int} {f1 : Int} {f2 : Bool} (h : W.heap[g]? = some (.cells #[.slice A0 f0.length c0, .int .i64 f1, .bool f2] 78 (0, 0))) : W.cell? ⟨g, 2, none⟩ = some (.bool f2) := (blk_cell h 2).trans rfl
theorem IsS78.set_2 {w0 W : World} {g : Nat} {f0 : List Int} {f1 : Int} {f2 : Bool} (h : IsS78 w0 W g f0 f1 f2) (x : Bool) : IsS78 w0 (W.setCell ⟨g, 2, none⟩ (.bool x)) g f0 f1 x := by
  obtain ⟨A0, c0, hb, hg, hr0⟩ := h
  exact ⟨A0, c0, by simpa using blk_set hb 2 (.bool x), hg, hr0⟩
theorem IsS78.new (w0 W : World) (A0 : Option Addr) (c0 : Nat) (f0 : List Int) (f1 : Int) (f2 : Bool) (hB : Below w0.heap.size w0 W) (hr0 : (Kd.C (Kd.int .u8) w0 A0 f0.length f0 ∧ f0.length ≤ c0)) : IsS78 w0 (W.alloc (.cells #[.slice A0 f0.length c0, .int .i64 f1, .bool f2] 78)) W.heap.size f0 f1 f2 := ⟨A0, c0, by simpa using heap_alloc_new W _, hB.size, hr0⟩

theorem zi78 {V : World} {w0 W : World} {g : Nat} {f0 : List Int} {f1 : Int} {f2 : Bool} {f0' : List Int} {f1' : Int} {f2' : Bool} (h : Aside0 (IsS78 w0 W g f0 f1 f2)) (hv : IsS78 w0 W g f0 f1 f2 → IsS78 w0 V g f0' f1' f2' := by intro h_; repeat (first | (with_reducible first | exact h_ | apply IsS78.alloc | apply IsS78.drewN | apply IsS78.drew | apply IsS78.set_1 | apply IsS78.set_2 | refine IsS78.far ?_ (Aside0.out (by assumption)) _) | exact h_)) : IsS78 w0 V g f0' f1' f2' := hv h.out
theorem zj78 {B : Nat} {w W V : World} (h : Aside0 (Below B w W)) (hv : Below B w W → Below B w V := by intro h_; repeat (first | (with_reducible first | exact h_ | apply below_alloc | apply pw_below_drewN | apply below_drew1 | refine below_set ?_ (Aside0.out (by assumption)) | refine below_set ?_ (IsS78.ge (Aside0.out (by assumption)))) | exact h_)) : Below B w V := hv h.out
/-! ### impl_docReader_int: function 73 -/
def impl_docReader_int.f (k : Nat) (s0_0 : List Int) (s0_1 : Int) (s0_2 : Bool) (a1 : Int) : Option (Int × Int × Bool) := if s0_2 = true then (some (0, s0_1, s0_2)) else ((impl_GetInt.f k s0_0 s0_1).bind fun bt111 => (if bt111.2.2 = 0 then (if bt111.1 > a1 then (some (0, s0_1, true)) else (some (bt111.1, bt111.2.1, s0_2))) else (some (0, s0_1, true))))
theorem impl_docReader_int.mono : ∀ a0 a1 a2 a3 k, LeO (impl_docReader_int.f k a0 a1 a2 a3) (impl_docReader_int.f (k + 1) a0 a1 a2 a3) := by
  intro a0 a1 a2 a3 k
  unfold impl_docReader_int.f
  repeat' first
      | (with_reducible exact impl_GetInt.mono _ _ _)
      | (with_reducible exact LeO.refl _)
      | (with_reducible exact LeO.none _)
      | (with_reducible refine LeO.ite ?_ ?_)
      | (with_reducible refine LeO.bind ?_ (fun _ => ?_))
set_option maxHeartbeats 8000000 in
set_option maxRecDepth 100000 in
theorem impl_docReader_int.calls (k : Nat) (g : Nat) (s0_0 : List Int) (s0_1 : Int) (s0_2 : Bool) (a1 : Int) (r1 : Int) (r2 : Int) (r3 : Bool) (w0 w : World) (hI : IsS78 w0 w g s0_0 s0_1 s0_2) (hB : Below w0.heap.size w0 w) (h : impl_docReader_int.f k s0_0 s0_1 s0_2 a1 = some (r1, r2, r3)) :
    Calls Try.prog 73 #[.pointer (some ⟨g, 0, none⟩), .int .i64 a1] w fun e w' => e = .returned (.int .i64 r1) ∧ IsS78 w0 w' g s0_0 r2 r3 ∧ Below w0.heap.size w0 w' ∧ KeepBut w w' g none := by
  have HI0 := Aside0.mk hI
  have HK := Aside0.mk (KeepBut.refl w g none)
  have HL := Aside0.mk hB.size
  clear hI
  have HW0 := Aside0.mk hB.size
  have HB := Aside0.mk hB
  clear hB
  have H := h
  unfold impl_docReader_int.f at H
  clear h
  by_cases c3 : s0_2 = true
  · subst c3
    rw [if_pos rfl] at H
    simp only [Option.some.injEq, Prod.mk.injEq] at H
    obtain ⟨rfl, rfl, rfl⟩ := H
    obtain ⟨ASz4_0, cSz4_0, HGz4, hgz4, HSz4_0⟩ := HI0.out
    have hcz4_0 := cellS78_0 HGz4
    have hcz4_1 := cellS78_1 HGz4
    have hcz4_2 := cellS78_2 HGz4
    have hfz4_1 := blk_frozen HGz4 1
    have hfz4_2 := blk_frozen HGz4 2
    clear HGz4 hgz4
    go_enter Try.func73, Try.ntmps73
    go_wp2
    repeat (go_quiet (fail); try go_wp2)
    go_ret
    exact ⟨zre, zi78 HI0, zj78 HB, zk HK⟩
  · replace c3 := Bool.eq_false_iff.mpr c3
    subst c3
    rw [if_neg (show ¬ (false = true) by decide)] at H
    replace H := Option.bind_eq_some_iff.mp H
    obtain ⟨⟨t111, t112, t113⟩, A50, H⟩ := H
    try dsimp only at H
    have A5 := Aside0.mk A50
    clear A50
    by_cases c6 : t113 = 0
    · rw [if_pos c6] at H
      have c6b0 : (t113 == 0) = true := beq_iff_eq.mpr c6
      have c6b1 : (t113 != 0) = false := bne_eq_false_iff_eq.mpr c6
      clear c6
      by_cases c7 : t111 > a1
      · rw [if_pos c7] at H
        have c7b0 : decide (a1 < t111) = true := decide_eq_true c7
        clear c7
        simp only [Option.some.injEq, Prod.mk.injEq] at H
        obtain ⟨rfl, rfl, rfl⟩ := H
        obtain ⟨ASz8_0, cSz8_0, HGz8, hgz8, HSz8_0⟩ := HI0.out
        have hcz8_0 := cellS78_0 HGz8
        have hcz8_1 := cellS78_1 HGz8
        have hcz8_2 := cellS78_2 HGz8
        have hfz8_1 := blk_frozen HGz8 1
        have hfz8_2 := blk_frozen HGz8 2
        clear HGz8 hgz8
        go_enter Try.func73, Try.ntmps73
        go_wp2_with (first | (go_at_call 87; (with_reducible refine (impl_GetInt.calls k _ _ s0_0 s0_1 t111 t112 t113 _ ?side1 ?side2 A5.out).mono ?_); (case side1 => exact Kd.C_below HSz8_0.1 (zj78 HB)); (case side2 => exact HSz8_0.2); rintro e w' ⟨rfl, ⟨nd, rfl⟩⟩; (try first | exact ⟨rfl, _, World.drewN_drewN _ _ _⟩ | exact ⟨rfl, _, Eq.trans (World.drewN_drewN _ _ _) (congrArg (World.drewN _) (Nat.add_assoc _ _ _))⟩)))
        repeat (go_quiet (first | (go_at_call 87; (with_reducible refine (impl_GetInt.calls k _ _ s0_0 s0_1 t111 t112 t113 _ ?side1 ?side2 A5.out).mono ?_); (case side1 => exact Kd.C_below HSz8_0.1 (zj78 HB)); (case side2 => exact HSz8_0.2); rintro e w' ⟨rfl, ⟨nd, rfl⟩⟩; (try first | exact ⟨rfl, _, World.drewN_drewN _ _ _⟩ | exact ⟨rfl, _, Eq.trans (World.drewN_drewN _ _ _) (congrArg (World.drewN _) (Nat.add_assoc _ _ _))⟩))); try go_wp2_with (first | (go_at_call 87; (with_reducible refine (impl_GetInt.calls k _ _ s0_0 s0_1 t111 t112 t113 _ ?side1 ?side2 A5.out).mono ?_); (case side1 => exact Kd.C_below HSz8_0.1 (zj78 HB)); (case side2 => exact HSz8_0.2); rintro e w' ⟨rfl, ⟨nd, rfl⟩⟩; (try first | exact ⟨rfl, _, World.drewN_drewN _ _ _⟩ | exact ⟨rfl, _, Eq.trans (World.drewN_drewN _ _ _) (congrArg (World.drewN _) (Nat.add_assoc _ _ _))⟩))))
        go_ret
        exact ⟨zre, zi78 HI0, zj78 HB, zk HK⟩
      · rw [if_neg c7] at H
        have c7b0 : decide (a1 < t111) = false := decide_eq_false c7
        clear c7
        simp only [Option.some.injEq, Prod.mk.injEq] at H
        obtain ⟨rfl, rfl, rfl⟩ := H
        obtain ⟨ASz9_0, cSz9_0, HGz9, hgz9, HSz9_0⟩ := HI0.out
        have hcz9_0 := cellS78_0 HGz9
        have hcz9_1 := cellS78_1 HGz9
        have hcz9_2 := cellS78_2 HGz9
        have hfz9_1 := blk_frozen HGz9 1
        have hfz9_2 := blk_frozen HGz9 2
        clear HGz9 hgz9
        go_enter Try.func73, Try.ntmps73
        go_wp2_with (first | (go_at_call 87; (with_reducible refine (impl_GetInt.calls k _ _ s0_0 s0_1 t111 t112 t113 _ ?side1 ?side2 A5.out).mono ?_); (case side1 => exact Kd.C_below HSz9_0.1 (zj78 HB)); (case side2 => exact HSz9_0.2); rintro e w' ⟨rfl, ⟨nd, rfl⟩⟩; (try first | exact ⟨rfl, _, World.drewN_drewN _ _ _⟩ | exact ⟨rfl, _, Eq.trans (World.drewN_drewN _ _ _) (congrArg (World.drewN _) (Nat.add_assoc _ _ _))⟩)))
        repeat (go_quiet (first | (go_at_call 87; (with_reducible refine (impl_GetInt.calls k _ _ s0_0 s0_1 t111 t112 t113 _ ?side1 ?side2 A5.out).mono ?_); (case side1 => exact Kd.C_below HSz9_0.1 (zj78 HB)); (case side2 => exact HSz9_0.2); rintro e w' ⟨rfl, ⟨nd, rfl⟩⟩; (try first | exact ⟨rfl, _, World.drewN_drewN _ _ _⟩ | exact ⟨rfl, _, Eq.trans (World.drewN_drewN _ _ _) (congrArg (World.drewN _) (Nat.add_assoc _ _ _))⟩))); try go_wp2_with (first | (go_at_call 87; (with_reducible refine (impl_GetInt.calls k _ _ s0_0 s0_1 t111 t112 t113 _ ?side1 ?side2 A5.out).mono ?_); (case side1 => exact Kd.C_below HSz9_0.1 (zj78 HB)); (case side2 => exact HSz9_0.2); rintro e w' ⟨rfl, ⟨nd, rfl⟩⟩; (try first | exact ⟨rfl, _, World.drewN_drewN _ _ _⟩ | exact ⟨rfl, _, Eq.trans (World.drewN_drewN _ _ _) (congrArg (World.drewN _) (Nat.add_assoc _ _ _))⟩))))
        go_ret
        exact ⟨zre, zi78 HI0, zj78 HB, zk HK⟩
    · rw [if_neg c6] at H
      have c6b0 : (t113 == 0) = false := beq_eq_false_iff_ne.mpr c6
      have c6b1 : (t113 != 0) = true := bne_iff_ne.mpr c6
      simp only [Option.some.injEq, Prod.mk.injEq] at H
      obtain ⟨rfl, rfl, rfl⟩ := H
      obtain ⟨ASz10_0, cSz10_0, HGz10, hgz10, HSz10_0⟩ := HI0.out
      have hcz10_0 := cellS78_0 HGz10
      have hcz10_1 := cellS78_1 HGz10
      have hcz10_2 := cellS78_2 HGz10
      have hfz10_1 := blk_frozen HGz10 1
      have hfz10_2 := blk_frozen HGz10 2
      clear HGz10 hgz10
      go_enter Try.func73, Try.ntmps73
      go_wp2_with (first | (go_at_call 87; (with_reducible refine (impl_GetInt.calls k _ _ s0_0 s0_1 t111 t112 t113 _ ?side1 ?side2 A5.out).mono ?_); (case side1 => exact Kd.C_below HSz10_0.1 (zj78 HB)); (case side2 => exact HSz10_0.2); rintro e w' ⟨rfl, ⟨nd, rfl⟩⟩; (try first | exact ⟨rfl, _, World.drewN_drewN _ _ _⟩ | exact ⟨rfl, _, Eq.trans (World.drewN_drewN _ _ _) (congrArg (World.drewN _) (Nat.add_assoc _ _ _))⟩)))
      repeat (go_quiet (first | (go_at_call 87; (with_reducible refine (impl_GetInt.calls k _ _ s0_0 s0_1 t111 t112 t113 _ ?side1 ?side2 A5.out).mono ?_); (case side1 => exact Kd.C_below HSz10_0.1 (zj78 HB)); (case side2 => exact HSz10_0.2); rintro e w' ⟨rfl, ⟨nd, rfl⟩⟩; (try first | exact ⟨rfl, _, World.drewN_drewN _ _ _⟩ | exact ⟨rfl, _, Eq.trans (World.drewN_drewN _ _ _) (congrArg (World.drewN _) (Nat.add_assoc _ _ _))⟩))); try go_wp2_with (first | (go_at_call 87; (with_reducible refine (impl_GetInt.calls k _ _ s0_0 s0_1 t111 t112 t113 _ ?side1 ?side2 A5.out).mono ?_); (case side1 => exact Kd.C_below HSz10_0.1 (zj78 HB)); (case side2 => exact HSz10_0.2); rintro e w' ⟨rfl, ⟨nd, rfl⟩⟩; (try first | exact ⟨rfl, _, World.drewN_drewN _ _ _⟩ | exact ⟨rfl, _, Eq.trans (World.drewN_drewN _ _ _) (congrArg (World.drewN _) (Nat.add_assoc _ _ _))⟩))))
      go_ret
      exact ⟨zre, zi78 HI0, zj78 HB, zk HK⟩

/-! ### impl_docReader_text: function 72 -/
def impl_docReader_text.f (k : Nat) (s0_0 : List Int) (s0_1 : Int) (s0_2 : Bool) : Option (ByteArray × Int × Bool) := (impl_docReader_int.f k s0_0 s0_1 s0_2 65536).bind fun bt => (if 0 ≤ bt.1 then (if bt.1 ≤ 9000000000 then (if 0 ≤ bt.2.1 then (if bt.2.1 ≤ 9000000000 then (if s0_0.length ≤ 9000000000 then (if bt.2.2 = true then (some ((⟨#[]⟩ : ByteArray), bt.2.1, true)) else (if bt.2.1 + bt.1 > (s0_0.length : Int) then (some ((⟨#[]⟩ : ByteArray), bt.2.1, true)) else (some (strOfNums ((s0_0.take (bt.2.1 + bt.1).toNat).drop bt.2.1.toNat), bt.2.1 + bt.1, false)))) else (none)) else (none)) else (none)) else (none)) else (none))
theorem impl_docReader_text.mono : ∀ a0 a1 a2 k, LeO (impl_docReader_text.f k a0 a1 a2) (impl_docReader_text.f (k + 1) a0 a1 a2) := by
  intro a0 a1 a2 k
  unfold impl_docReader_text.f
  exact LeO.bind (impl_docReader_int.mono _ _ _ _ _) (fun _ => LeO.refl _)
set_option maxHeartbeats 8000000 in
set_option maxRecDepth 100000 in
theorem impl_docReader_text.calls (k : Nat) (g : Nat) (s0_0 : List Int) (s0_1 : Int) (s0_2 : Bool) (r1 : ByteArray) (r2 : Int) (r3 : Bool) (w0 w : World) (hI : IsS78 w0 w g s0_0 s0_1 s0_2) (hB : Below w0.heap.size w0 w) (h : impl_docReader_text.f k s0_0 s0_1 s0_2 = some (r1, r2, r3)) :
    Calls Try.prog 72 #[.pointer (some ⟨g, 0, none⟩)] w fun e w' => e = .returned (.string r1) ∧ IsS78 w0 w' g s0_0 r2 r3 ∧ Below w0.heap.size w0 w' ∧ KeepBut w w' g none := by
  unfold impl_docReader_text.f at h
  obtain ⟨⟨n1, at1, bad1⟩, hnum, h⟩ := Option.bind_eq_some_iff.1 h
  simp only at h
  by_cases g1 : 0 ≤ n1
  case neg => rw [if_neg g1] at h; cases h
  rw [if_pos g1] at h
  by_cases g2 : n1 ≤ 9000000000
  case neg => rw [if_neg g2] at h; cases h
  rw [if_pos g2] at h
  by_cases g3 : 0 ≤ at1
  case neg => rw [if_neg g3] at h; cases h
  rw [if_pos g3] at h
  by_cases g4 : at1 ≤ 9000000000
  case neg => rw [if_neg g4] at h; cases h
  rw [if_pos g4] at h
  by_cases g5 : s0_0.length ≤ 9000000000
  case neg => rw [if_neg g5] at h; cases h
  rw [if_pos g5] at h
  have hc := fun W hi hb => impl_docReader_int.calls k g s0_0 s0_1 s0_2 65536 n1 at1 bad1 w0 W hi hb hnum
  have HI := Aside0.mk hI
  have HB := Aside0.mk hB
  clear hnum hI hB
  have bad : Calls Try.prog 73 #[.pointer (some ⟨g, 0, none⟩), .int .i64 65536] w (fun e w' => e = .returned (.int .i64 n1) ∧ IsS78 w0 w' g s0_0 at1 bad1 ∧ Below w0.heap.size w0 w' ∧ KeepBut w w' g none) := hc w HI.out HB.out
  clear hc
  by_cases cb : bad1 = true
  · subst cb
    rw [if_pos rfl] at h
    simp only [Option.some.injEq, Prod.mk.injEq] at h
    obtain ⟨rfl, rfl, rfl⟩ := h
    go_enter Try.func72, Try.ntmps72
    go_wp2_with (go_at_call 73; refine bad.mono ?_; rintro e w1 ⟨rfl, hi1, hb1, hk1⟩; have HI1 := Aside0.mk hi1; have HB1 := Aside0.mk hb1; have HK1 := Aside0.mk hk1; obtain ⟨A1, c1, HG1, hg1, HS1⟩ := hi1; have hx0 := cellS78_0 HG1; have hx1 := cellS78_1 HG1; have hx2 := cellS78_2 HG1; have hf1 := blk_frozen HG1 1; have hf2 := blk_frozen HG1 2; clear HG1 hg1 hb1 hk1)
    repeat (go_quiet (fail); try go_wp2)
    go_ret
    exact ⟨rfl, zi78 HI1, zj78 HB1, zk HK1⟩
  · have cb' := Bool.eq_false_iff.2 cb
    subst cb'
    rw [if_neg Bool.false_ne_true] at h
    clear cb
    have q1 : wrap64 (at1 + n1) = at1 + n1 := by unfold wrap64; omega
    have q2 : IntKind.i64.wrap (at1 + n1) = at1 + n1 := (i64_w _).trans q1
    have q3 : wrap64 (at1 + n1 - n1) = at1 := by unfold wrap64; omega
    have q4 : IntKind.i64.wrap (at1 + n1 - n1) = at1 := (i64_w _).trans q3
    have q5 : wrap64 ((s0_0.length : Int) - at1) = (s0_0.length : Int) - at1 := by unfold wrap64; omega
    have q6 : IntKind.i64.wrap ((s0_0.length : Int) - at1) = (s0_0.length : Int) - at1 := (i64_w _).trans q5
    by_cases cl : at1 + n1 > (s0_0.length : Int)
    · rw [if_pos cl] at h
      have d1 : decide ((s0_0.length : Int) < at1 + n1) = true := decide_eq_true cl
      clear cl
      simp only [Option.some.injEq, Prod.mk.injEq] at h
      obtain ⟨rfl, rfl, rfl⟩ := h
      clear g1 g2 g3 g4 g5
      go_enter Try.func72, Try.ntmps72
      go_wp2_with (go_at_call 73; refine bad.mono ?_; rintro e w1 ⟨rfl, hi1, hb1, hk1⟩; have HI1 := Aside0.mk hi1; have HB1 := Aside0.mk hb1; have HK1 := Aside0.mk hk1; obtain ⟨A1, c1, HG1, hg1, HS1⟩ := hi1; have hx0 := cellS78_0 HG1; have hx1 := cellS78_1 HG1; have hx2 := cellS78_2 HG1; have hf1 := blk_frozen HG1 1; have hf2 := blk_frozen HG1 2; clear HG1 hg1 hb1 hk1)
      repeat (go_quiet (fail); try go_wp2)
      go_ret
      exact ⟨rfl, zi78 HI1, zj78 HB1, zk HK1⟩
    · rw [if_neg cl] at h
      have d1 : decide ((s0_0.length : Int) < at1 + n1) = false := decide_eq_false cl
      have cl2 : at1 + n1 ≤ (s0_0.length : Int) := by omega
      clear cl
      simp only [Option.some.injEq, Prod.mk.injEq] at h
      obtain ⟨rfl, rfl, rfl⟩ := h
      have HG := Aside0.mk (show 0 ≤ at1 ∧ at1 ≤ at1 + n1 ∧ at1 + n1 ≤ (s0_0.length : Int) from ⟨g3, by omega, by omega⟩)
      have HG0 := Aside0.mk (And.intro g3 g4)
      clear g1 g2 g3 g4 g5
      go_enter Try.func72, Try.ntmps72
      go_upto_region 6 with (first | (go_at_call 73; refine bad.mono ?_; rintro e w1 ⟨rfl, hi1, hb1, hk1⟩; have HI1 := Aside0.mk hi1; have HB1 := Aside0.mk hb1; have HK1 := Aside0.mk hk1; obtain ⟨A1, c1, HG1, hg1, HS1⟩ := hi1; have hx0 := cellS78_0 HG1; have hx1 := cellS78_1 HG1; have hx2 := cellS78_2 HG1; have hf1 := blk_frozen HG1 1; have hf2 := blk_frozen HG1 2; clear HG1 hg1 hb1 hk1) | (go_quiet (fail)))
      have HI2 : Aside0 (IsS78 w0 ((w1.drewN nq).setCell ⟨g, 1, none⟩ (.int .i64 (at1 + n1))) g s0_0 (at1 + n1) false) := ⟨zi78 HI1⟩
      have HB2 : Aside0 (Below w0.heap.size w0 ((w1.drewN nq).setCell ⟨g, 1, none⟩ (.int .i64 (at1 + n1)))) := ⟨zj78 HB1⟩
      have HK2 : Aside0 (KeepBut w ((w1.drewN nq).setCell ⟨g, 1, none⟩ (.int .i64 (at1 + n1))) g none) := ⟨zk HK1⟩
      clear hx0 hx1 hx2 hf1 hf2 HS1
      generalize (w1.drewN nq).setCell ⟨g, 1, none⟩ (.int .i64 (at1 + n1)) = w2 at HI2 HB2 HK2 ⊢
      clear HI1 HB1 HK1
      obtain ⟨A2, c2, HG2, hg2, HS2⟩ := HI2.out
      have hx0 := cellS78_0 HG2
      have hx1 := cellS78_1 HG2
      clear HG2 hg2
      obtain ⟨A3, hcut, hrd, hle⟩ := print_mid_of (P := Try.prog) (Value.int .u8) (0 : Int) 26 5 .i64 .i64 Try.underlying26 rfl rfl A2 c2 s0_0 at1 (at1 + n1) HG.out.1 HG.out.2.1 HG.out.2.2 HS2.2
      have hcv := fun m => string_of_reads (c := c2 - at1.toNat) Try.underlying26 Try.underlying5 Try.underlying9 (hrd _ (Kd.reads_of_C (enc := Value.int .u8) (d := (0 : Int)) (h1 := fun _ => rfl) (Kd.C_drewN (Kd.C_below HS2.1 HB2.out) m)))
      clear HS2 hrd hle HG h
      generalize hxs : (s0_0.take (at1 + n1).toNat).drop at1.toNat = xs at hcut hcv ⊢
      have q7 : wrap64 at1 = at1 := by have := HG0.out; unfold wrap64; omega
      have q8 : IntKind.i64.wrap at1 = at1 := (i64_w _).trans q7
      clear HG0
      go_quiet (fail)
      try go_wp2
      go_ret
      exact ⟨by subst hxs; rfl, zi78 HI2, zj78 HB2, zk HK2⟩

end Go.Proofs.Ytnpdmleglcbobaa.XFnExactReadLog
