/- The two tables of unicode/utf8 that a call reads: what a world must hold, that it is kept, and that a listed row gives it. -/
import Derived.Test.YtcokeankiedfcaaDoorRows
import Derived.Test.YtcokeankiedfcaaDoorUShelf
import Derived.Lib.LaidU8T
import Derived.PinnedBridge
import Derived.Lay
import Derived.LaidMore
import Derived.SevenTiedAt
import Derived.ProofKit
namespace Go.Proofs.YtcokeankiedfcaaDoor
open Go.Shelf Go.Lib Go.ChangeShapes Go.WideShapes Go.RowKit
/-- The tables lie where the contract of utf8.ValidString reads them. -/
def TabW (w : World) : Prop := Lib.Utf8Tabs (Tryd.laysValid_ren.g 3) (Tryd.laysValid_ren.g 4) w
theorem TabW.below {w w' : World} (h : TabW w) (hb : Below w.heap.size w w') : TabW w' := Utf8Tabs_below h hb
/-- utf8.ValidString at this dump. -/
theorem valid_contract (s : ByteArray) (w : World) (hs : s.size ≤ 9223372036854775807) (hT : TabW w) :
    Calls Tryd.prog 53 #[.string s] w fun e w' => e = .returned (.bool (Lib.validD s.data.toList)) ∧ Below w.heap.size w w' := Any.utf8_ValidString Tryd.laysValid s w hs hT
namespace Tabs
/-- The variables that each row of this seat lists. -/
def laid : List (String × DataW Unit) := Rows.fnExactDecodeRow.laid
theorem accept_eq : (Rows.laid_unicode_utf8_acceptRanges : DataW Unit) = acceptData := by kernel_rfl
theorem first_eq : Rows.laid_unicode_utf8_first = firstData := Pinned.utf8First_eq
theorem of_laid {W : World} (h : laidMetH Tryd.prog laid W) : TabW W := by
  rw [MakeChecks.laidMetH_plain _ _ _ (by kernel_rfl)] at h
  have h0 : laidMet Tryd.prog [(_, Rows.laid_unicode_utf8_acceptRanges), (_, Rows.laid_unicode_utf8_first)] W := h
  have h1 := Lib.laidMet.reads h0 (.head _)
  have h2 := Lib.laidMet.reads h0 (.tail _ (.head _))
  rw [accept_eq] at h1
  rw [first_eq] at h2
  exact utf8Tabs_of_readsT (U8Types.of196 Tryd.laysValid) ⟨by kernel_rfl, by kernel_rfl, by kernel_rfl, by kernel_rfl, by kernel_rfl, by kernel_rfl, by kernel_rfl⟩ h2 h1
theorem shaped (os : Os) : (World.laidAll Tryd.prog os laid).Shaped Tryd.prog := World.shaped_of_ZipB (by kernel_rfl) (by kernel_rfl)
theorem met (os : Os) (args : Array Value) : laidMetH Tryd.prog laid ((World.laidAll Tryd.prog os laid).forCall (fun _ _ => 0) ⟨#[], args, []⟩).memory := by
  rw [MakeChecks.laidMetH_plain _ _ _ (by kernel_rfl)]
  exact laidMet_laidAll _ (by kernel_rfl) (by kernel_rfl)
end Tabs
end Go.Proofs.YtcokeankiedfcaaDoor
