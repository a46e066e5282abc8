-- A printed text of this session (wip/x/xprint.py).
import Derived.Test.YtcokeankiedfcaaDoorXFnSuggestx0
namespace Go.Proofs.YtcokeankiedfcaaDoor.XFnSuggest
open Go.RowKit Go.Proofs.YtcokeankiedfcaaDoorW.PrintWords Go.Proofs.YtcokeankiedfcaaDoorW.PrintLast Go.Proofs.YtcokeankiedfcaaDoorW.PrintMore
attribute [local go_sem] max2_int min2_int max_two min_two max_three min_three max_four min_four   -- for this text's walks alone
set_option linter.unusedVariables false
set_option linter.unusedSimpArgs false

/-! ### impl_Decode: function 16 -/
section
open Go.Shelf Go.Lib
/-- The string's characters from a place on, by the model's own decoder. -/
def impl_Decode.runes (s : ByteArray) : Nat → Nat → List Int
  | 0, _ => []
  | n + 1, pos => if pos < s.size then ((Utf8.decode s pos).1 : Int) :: impl_Decode.runes s n (pos + (Utf8.decode s pos).2) else []
def impl_Decode.f (a0 : ByteArray) : Option (List Int × Int) := if (a0.size : Int) > 65536 then some ([], 2) else if Lib.validD a0.data.toList = true then some (impl_Decode.runes a0 a0.size 0, 0) else some ([], 3)
theorem impl_Decode.runes_end (s : ByteArray) (fuel pos : Nat) (h : ¬ pos < s.size) : impl_Decode.runes s fuel pos = [] := by
  cases fuel with
  | zero => rfl
  | succ n => simp [impl_Decode.runes, h]
theorem impl_Decode.own_iter {w : World} {base : Nat} {e : TypeId} {size : Nat} {v : Value} {n : Nat} {xs : List Value} (h : w.ownsRow base e size v n xs) {k : Nat} (hk : k < base) (s : ByteArray) (p : Nat) : (w.iterAt k s p).ownsRow base e size v n xs := by
  obtain ⟨h1, h2⟩ := h
  refine ⟨h1, ?_⟩
  rcases h2 with h2 | ⟨g, cap, cur, a, b, c, d⟩
  · exact .inl h2
  · exact .inr ⟨g, cap, cur, a, b, by rw [Lib.iterAt_other _ _ _ _ _ (by omega)]; exact c, d⟩
theorem impl_Decode.pos_of {w : World} {k : Nat} {s : ByteArray} {p : Nat} (h : w.heap[k]? = some (.stringIter s p)) : w.iterPos k = p := by simp [World.iterPos, h]
theorem impl_Decode.cell_new (w : World) (a : Value) (t : TypeId) : ∀ j u, [a][j]? = some u → (w.alloc (.cells #[a] t)).cell? ((⟨w.heap.size, 0, none⟩ : Addr).add j) = some u := by
  intro j u hj
  match j, hj with
  | 0, hj => simp at hj; subst hj; simp [Addr.add]
  | j + 1, hj => simp at hj
theorem impl_Decode.info3 : (Tryd.prog.info? 3).map (fun i => (i.zero, i.size, i.bytes)) = some (some (.int .i64 0), 1, 8) := by kernel_rfl
set_option maxRecDepth 1000000 in
set_option maxHeartbeats 2000000 in
theorem impl_Decode.calls (a0 : ByteArray) (r1 : List Int) (r2 : Int) (w : World) (hT : TabW w) (h : impl_Decode.f a0 = some (r1, r2)) :
    Calls Tryd.prog 16 #[.string a0] w fun e w' => ∃ v0_ : Value, e = .returned (.tuple #[v0_, .int .i64 r2]) ∧ Kd.R (Kd.int .i64) 3 w' w.heap.size (fun _ => True) v0_ r1 ∧ Below w.heap.size w w' := by
  unfold impl_Decode.f at h
  by_cases hbig : (a0.size : Int) > 65536
  · rw [if_pos hbig] at h
    simp only [Option.some.injEq, Prod.mk.injEq] at h
    obtain ⟨rfl, rfl⟩ := h
    have d0 : decide (65536 < (a0.size : Int)) = true := decide_eq_true hbig
    have d1 : decide (65536 < a0.size) = true := decide_eq_true (by omega)
    clear hbig
    go_enter Tryd.func16, Tryd.ntmps16
    go_wp2
    go_ret2
    exact ⟨_, rfl, Kd.R_nil _ _ _ _ _, Below.refl _ _⟩
  rw [if_neg hbig] at h
  have d0 : decide (65536 < (a0.size : Int)) = false := decide_eq_false hbig
  have d1 : decide (65536 < a0.size) = false := decide_eq_false (by omega)
  have hsz : a0.size ≤ 65536 := by omega
  have cV := valid_contract a0 w (by omega) hT
  clear hbig
  by_cases hv : Lib.validD a0.data.toList = true
  rotate_left
  · rw [if_neg hv] at h
    have hv' : Lib.validD a0.data.toList = false := by simpa using hv
    rw [hv'] at cV
    clear hv hv'
    simp only [Option.some.injEq, Prod.mk.injEq] at h
    obtain ⟨rfl, rfl⟩ := h
    go_enter Tryd.func16, Tryd.ntmps16
    go_wp2_with (go_at_call 53; refine cV.mono ?_; rintro e w1 ⟨rfl, hb1⟩)
    go_ret2
    exact ⟨_, rfl, Kd.R_nil _ _ _ _ _, hb1⟩
  rw [if_pos hv] at h
  rw [hv] at cV
  clear hv
  simp only [Option.some.injEq, Prod.mk.injEq] at h
  obtain ⟨hr, rfl⟩ := h
  have HR := Lib.hid hr
  clear hr
  obtain ⟨i0, hi, hz0, hz1, hz2⟩ := info_parts impl_Decode.info3
  go_enter Tryd.func16, Tryd.ntmps16
  go_wp2_with (go_at_call 53; refine cV.mono ?_; rintro e w1 ⟨rfl, hb1⟩; have HB1 := Lib.hid hb1; clear hb1; have HS1 := Lib.hid HB1.out.size)
  go_loopw [4] (fun v wr => ∃ (pos fuel : Nat) (acc : List Int), wr.heap[w1.heap.size]? = some (.stringIter a0 pos) ∧ wr.ownsRow (w1.heap.size + 1) 3 1 v acc.length (nums .i64 acc) ∧ Below w1.heap.size w1 wr ∧ Hid (acc ++ impl_Decode.runes a0 fuel pos = r1) ∧ a0.size ≤ pos + fuel ∧ acc.length ≤ pos) (fun _ wr => a0.size - wr.iterPos w1.heap.size)
  case atStart => exact ⟨0, a0.size, [], World.iter_heap w1 a0 0, World.ownsRow_nil _ _ _ _, (Below.refl _ _).alloc (Nat.le_refl _) _, (by show _ = _; rw [← HR.out]; rfl), by omega, by simp⟩
  case round =>
    obtain ⟨pos, fuel, acc, hit, hown, hbw, HS, hb, hlen⟩ := hrel
    have hpos0 := impl_Decode.pos_of hit
    by_cases hp : pos < a0.size
    rotate_left
    · have hnx : ∀ ty, (Instr.next (.pointer (some ⟨w1.heap.size, 0, none⟩)) true ty).run Tryd.prog wr = _ := fun ty => Lib.run_next_end_at wr w1.heap.size a0 pos ty hit hp
      have e1 : acc = r1 := by rw [← HS.out, impl_Decode.runes_end a0 fuel pos hp, List.append_nil]
      have HO := Lib.hid hown
      have HB2 := Lib.hid hbw
      have HE := Lib.hid e1
      clear e1 hown hbw
      go_wp2
      go_ret2
      refine ⟨_, rfl, ?_, ?_⟩
      · rw [← HE.out]
        exact Kd.R_of_own (own_weaken HO.out (by have := HS1.out; omega)) (fun _ _ => trivial)
      · exact HB1.out.trans (HB2.out.mono HS1.out)
    have hnx : ∀ ty, (Instr.next (.pointer (some ⟨w1.heap.size, 0, none⟩)) true ty).run Tryd.prog wr = _ := fun ty => Lib.run_next_any_at wr w1.heap.size a0 pos ty hit hp
    have hwd := Lib.width_pos a0 pos
    have hrl := Lib.rune_le a0 pos
    obtain ⟨fuel, rfl⟩ : ∃ f', fuel = f' + 1 := ⟨fuel - 1, by omega⟩
    have hit2 := Lib.iterAt_heap wr w1.heap.size a0 pos (pos + (Utf8.decode a0 pos).2) hit
    have hbw2 := Lib.below_iterAt hbw (k := w1.heap.size) (Nat.le_refl _) a0 (pos + (Utf8.decode a0 pos).2)
    have hown2 := impl_Decode.own_iter hown (k := w1.heap.size) (by omega) a0 (pos + (Utf8.decode a0 pos).2)
    obtain ⟨W1, hW1⟩ : ∃ W1, W1 = wr.iterAt w1.heap.size a0 (pos + (Utf8.decode a0 pos).2) := ⟨_, rfl⟩
    rw [← hW1] at hnx hit2 hbw2 hown2
    have hBlt := lt_of_block hit2
    clear hW1 hit hown hbw
    have HS2 : Hid (acc ++ [((Utf8.decode a0 pos).1 : Int)] ++ impl_Decode.runes a0 fuel (pos + (Utf8.decode a0 pos).2) = r1) := by
      show _ = _
      rw [← HS.out]; simp [impl_Decode.runes, hp]
    go_wp2_with (first
      | (at_builtin; refine wpList_append_own _ rfl _ _ 22 rfl (w1.heap.size + 1) 3 i0 (.int .i64 0) 1 8 Tryd.underlying22 hi hz0 hz1 hz2 rfl (by decide) _ _ _ rfl (hown2.alloc _) ⟨W1.heap.size, 0, none⟩ 1 1 [.int .i64 ((Utf8.decode a0 pos).1 : Int)] rfl rfl (impl_Decode.cell_new _ _ _) (fun x hx => by simp at hx; subst hx; rfl) (by unfold maxLen; omega) (by omega) (by simp; omega) ?_; intro v' w3 hown' hgrow3 hnil3
         have hit3 : w3.heap[w1.heap.size]? = some (.stringIter a0 (pos + (Utf8.decode a0 pos).2)) := by
           rw [hgrow3.block w1.heap.size (by simp; omega) (fun h => by have := (hown2.lt _ h.symm).1; omega), Below.heap_alloc _ _ _ hBlt]; exact hit2
         have hbw3 : Below w1.heap.size w1 w3 := Below.grown (hbw2.alloc (by omega) _) hgrow3 (by simp; omega) (fun j hj => by have := (hown2.lt _ hj).1; omega)
         have X : Aside (w3.ownsRow (w1.heap.size + 1) 3 1 v' (acc.length + 1) (nums .i64 acc ++ [.int .i64 ((Utf8.decode a0 pos).1 : Int)]) ∧ w3.heap[w1.heap.size]? = some (.stringIter a0 (pos + (Utf8.decode a0 pos).2)) ∧ Below w1.heap.size w1 w3) := ⟨hown', hit3, hbw3⟩
         clear hown' hgrow3 hnil3 hit3 hbw3))
    go_roundw
    case rel => exact ⟨_, fuel, acc ++ [((Utf8.decode a0 pos).1 : Int)], X.out.2.1, by rw [nums_append, List.length_append]; exact X.out.1, X.out.2.2, HS2, by omega, by simp; omega⟩
    case measure => rw [impl_Decode.pos_of X.out.2.1, hpos0]; omega
end

end Go.Proofs.YtcokeankiedfcaaDoor.XFnSuggest
