/- The card of the law FnExactSketchOf: the row holds, and what it lists of the library's tables is tied to the program's text by the given tie. Condition: the translator's report that nothing else writes the listed variables. -/
import Derived.Test.YtchoncnahlcfjaaDoorRowFnExactSketchOf
import Derived.Test.YtchoncnahlcfjaaDoorCards
import Derived.Test.YtchoncnahlcfjaaDoorTie
import Derived.SevenTiedAt
namespace Go.Proofs.YtchoncnahlcfjaaDoor
open Go
/-- THE CARD. -/
theorem fnExactSketchOf_card : Rows.FnExactSketchOfCardSaid :=
  Claim7.holds_tied_plain_at .later [] [.data] true (true, "67b58450f51d1f7f1750f2d9ffbe0c4edfcae4ae147642cebeea226ea29a5421") false fnExactSketchOf.over (fun _ h => by cases h) (by kernel_rfl) (fun _ h => by cases h) fnExactSketchOf_row_tie rfl ⟨rfl, rfl⟩ (by kernel_rfl) rfl
    (fun f fn hf hfn => by
      obtain rfl : f = 3 := Option.some.inj ((show Tryd.prog.funcNamed Rows.fnExactSketchOfRow.func = some 3 by kernel_rfl).symm.trans hf) |>.symm
      obtain rfl : fn = Tryd.f3 := (Option.some.inj (Tryd.func3.symm.trans hfn)).symm
      exact ⟨by kernel_rfl, fun j t ht => by
        rw [Tryd.params3] at ht
        have hm : t ∈ [22] := by simpa using Array.mem_of_getElem? ht
        have hall : ([22].all fun u => !Tryd.prog.wantsStandIn u) = true := by kernel_rfl
        exact (show Tryd.prog.wantsStandIn t = false by simpa using List.all_eq_true.1 hall t hm)⟩)
    (by kernel_rfl)
#print axioms fnExactSketchOf_card
end Go.Proofs.YtchoncnahlcfjaaDoor
