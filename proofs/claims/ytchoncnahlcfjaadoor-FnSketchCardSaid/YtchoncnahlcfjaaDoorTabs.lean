/- The table of math/bits that a call reads: what a world must hold, that it is kept, and that a listed row gives it. -/
import Derived.Test.YtchoncnahlcfjaaDoorRows
import Derived.Test.YtchoncnahlcfjaaDoorUShelf
import Derived.Lib.LaidTab
import Derived.Lay
import Derived.LaidMore
import Derived.SevenTiedAt
import Derived.ProofKit
namespace Go.Proofs.YtchoncnahlcfjaaDoor
open Go.Shelf Go.Lib Go.ChangeShapes Go.WideShapes Go.RowKit
/-- The table lies where bits.TrailingZeros32 reads it. -/
def TabW (w : World) : Prop := TabAt (Tryd.laysTz_ren.g 0) Lib.deBruijn32tab w
theorem TabW.below {w w' : World} (h : TabW w) (hb : Below w.heap.size w w') : TabW w' := fun j hj => by
  have hc := h j hj
  have lt : (Tryd.laysTz_ren.g 0) < w.heap.size := by
    rcases Nat.lt_or_ge (Tryd.laysTz_ren.g 0) w.heap.size with h' | h'
    · exact h'
    · simp [World.cell?, Array.getElem?_eq_none h'] at hc
  exact (hb.cell lt).trans hc
/-- bits.TrailingZeros32 at this dump. -/
theorem tz_contract (x : Nat) (hx : x < 4294967296) (w : World) (hT : TabW w) :
    Calls Tryd.prog 24 #[.int .u32 x] w fun e w' => e = .returned (.int .i64 (Lib.ctz 32 x)) ∧ w' = w := Any7.bits_TrailingZeros32 Tryd.laysTz x hx w fun _ => hT
namespace Tabs
/-- The variables that each row of this seat lists. -/
def laid : List (String × DataW Unit) := Rows.fnExactSketchOfRow.laid
theorem tab_eq : (Rows.laid_math_bits_deBruijn32tab : DataW Unit) = tabData .u8 (Lib.deBruijn32tab.map Int.ofNat) := by kernel_rfl
theorem of_laid {W : World} (h : laidMetH Tryd.prog laid W) : TabW W := by
  rw [MakeChecks.laidMetH_plain _ _ _ (by kernel_rfl)] at h
  have h0 : laidMet Tryd.prog [(_, Rows.laid_math_bits_deBruijn32tab)] W := h
  rw [tab_eq] at h0
  have ht : Lib.TabIs Tryd.prog W "math/bits.deBruijn32tab" .u8 (Lib.deBruijn32tab.map Int.ofNat) :=
    Lib.tabIs_of_head (g := 0) (t := 58) (e := 5) (n := 32) (by kernel_rfl) (by kernel_rfl) (by kernel_rfl) (by kernel_rfl) (by kernel_rfl) (by kernel_rfl) h0
  intro j hj
  have h1 := Lib.TabIs.cell ht (g := 0) (by kernel_rfl) j (by rw [List.length_map]; exact hj)
  refine Eq.trans h1 ?_
  rw [show (Lib.deBruijn32tab.map Int.ofNat).getD j 0 = ((Lib.deBruijn32tab.getD j 0 : Nat) : Int) by
    rw [List.getD_eq_getElem?_getD, List.getD_eq_getElem?_getD, List.getElem?_map]; cases Lib.deBruijn32tab[j]? <;> rfl]
theorem shaped (os : Os) : (World.laidAll Tryd.prog os laid).Shaped Tryd.prog := World.shaped_of_ZipB (by kernel_rfl) (by kernel_rfl)
theorem met (os : Os) (args : Array Value) : laidMetH Tryd.prog laid ((World.laidAll Tryd.prog os laid).forCall (fun _ _ => 0) ⟨#[], args, []⟩).memory := by
  rw [MakeChecks.laidMetH_plain _ _ _ (by kernel_rfl)]
  exact laidMet_laidAll _ (by kernel_rfl) (by kernel_rfl)
end Tabs
end Go.Proofs.YtchoncnahlcfjaaDoor
