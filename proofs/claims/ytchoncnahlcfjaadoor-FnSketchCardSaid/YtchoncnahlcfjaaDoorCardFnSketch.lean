/- The card of the law FnSketch: the row holds, and what it lists of the library's tables is tied to the program's text by the given tie. Condition: the translator's report that nothing else writes the listed variables. -/
import Derived.Test.YtchoncnahlcfjaaDoorRowFnSketch
import Derived.Test.YtchoncnahlcfjaaDoorCards
import Derived.Test.YtchoncnahlcfjaaDoorTie
import Derived.SevenTiedAt
namespace Go.Proofs.YtchoncnahlcfjaaDoor
open Go
/-- THE CARD. -/
theorem fnSketch_card : Rows.FnSketchCardSaid :=
  Claim7.holds_tied_plain_at .later [] [.data] true (true, "67b58450f51d1f7f1750f2d9ffbe0c4edfcae4ae147642cebeea226ea29a5421") false fnSketch.over (fun _ h => by cases h) (by kernel_rfl) (fun _ h => by cases h) fnSketch_row_tie rfl ⟨rfl, rfl⟩ (by kernel_rfl) rfl
    (fun f fn hf hfn => by
      obtain rfl : f = 4 := Option.some.inj ((show Tryd.prog.funcNamed Rows.fnSketchRow.func = some 4 by kernel_rfl).symm.trans hf) |>.symm
      obtain rfl : fn = Tryd.f4 := (Option.some.inj (Tryd.func4.symm.trans hfn)).symm
      exact ⟨by kernel_rfl, fun j t ht => by
        rw [Tryd.params4] at ht
        have hm : t ∈ [34] := by simpa using Array.mem_of_getElem? ht
        have hall : ([34].all fun u => !Tryd.prog.wantsStandIn u) = true := by kernel_rfl
        exact (show Tryd.prog.wantsStandIn t = false by simpa using List.all_eq_true.1 hall t hm)⟩)
    (by kernel_rfl)
#print axioms fnSketch_card
end Go.Proofs.YtchoncnahlcfjaaDoor
