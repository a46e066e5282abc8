/- The card of the law FnExactSchemaOK: the row holds, and what it lists of the library's tables is tied to the program's text by the given tie. Condition: the translator's report that nothing else writes the listed variables. -/
import Derived.Test.YtmbgncgcddjomaaDoorRowFnExactSchemaOK
import Derived.Test.YtmbgncgcddjomaaDoorCards
import Derived.Test.YtmbgncgcddjomaaDoorTie
import Derived.SevenTiedAt
namespace Go.Proofs.YtmbgncgcddjomaaDoor
open Go
/-- THE CARD. -/
theorem fnExactSchemaOK_card : Rows.FnExactSchemaOKCardSaid :=
  Claim7.holds_tied_plain_at .later [] [.data, .pinned] true (true, "3b9a2f5ed2201253835bd33aecc54bff6e98e0fa04e39ae529def75a52d5dbb4") false fnExactSchemaOK.over (fun _ h => by cases h) (by kernel_rfl) (fun _ h => by cases h) fnExactSchemaOK_row_tie rfl ⟨rfl, rfl⟩ (by kernel_rfl) rfl
    (fun f fn hf hfn => by
      obtain rfl : f = 3 := Option.some.inj ((show Tryd.prog.funcNamed Rows.fnExactSchemaOKRow.func = some 3 by kernel_rfl).symm.trans hf) |>.symm
      obtain rfl : fn = Tryd.f3 := (Option.some.inj (Tryd.func3.symm.trans hfn)).symm
      exact ⟨by kernel_rfl, fun j t ht => by
        rw [Tryd.params3] at ht
        have hm : t ∈ [24] := by simpa using Array.mem_of_getElem? ht
        have hall : ([24].all fun u => !Tryd.prog.wantsStandIn u) = true := by kernel_rfl
        exact (show Tryd.prog.wantsStandIn t = false by simpa using List.all_eq_true.1 hall t hm)⟩)
    (by kernel_rfl)
#print axioms fnExactSchemaOK_card
end Go.Proofs.YtmbgncgcddjomaaDoor
