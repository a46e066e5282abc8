/- The card of the law FnExactFragments: the row holds, and what it lists of the library's tables is tied to the program's text by the given tie. Condition: the translator's report that nothing else writes the listed variables. -/
import Derived.Test.YtcokeankiedfcaaDoorRowFnExactFragments
import Derived.Test.YtcokeankiedfcaaDoorCards
import Derived.Test.YtcokeankiedfcaaDoorTie
import Derived.SevenTiedAt
namespace Go.Proofs.YtcokeankiedfcaaDoor
open Go
/-- THE CARD. -/
theorem fnExactFragments_card : Rows.FnExactFragmentsCardSaid :=
  Claim7.holds_tied_plain_at .later [] [.data, .pinned] true (true, "52fcbdb311a9c3cff60de70d26275bb578220998e2bbecfaa369616d372feebc") false fnExactFragments.over (fun _ h => by cases h) (by kernel_rfl) (fun _ h => by cases h) fnExactFragments_row_tie rfl ⟨rfl, rfl⟩ (by kernel_rfl) rfl
    (fun f fn hf hfn => by
      obtain rfl : f = 12 := Option.some.inj ((show Tryd.prog.funcNamed Rows.fnExactFragmentsRow.func = some 12 by kernel_rfl).symm.trans hf) |>.symm
      obtain rfl : fn = Tryd.f12 := (Option.some.inj (Tryd.func12.symm.trans hfn)).symm
      exact ⟨by kernel_rfl, fun j t ht => by
        rw [Tryd.params12] at ht
        have hm : t ∈ [9, 3] := by simpa using Array.mem_of_getElem? ht
        have hall : ([9, 3].all fun u => !Tryd.prog.wantsStandIn u) = true := by kernel_rfl
        exact (show Tryd.prog.wantsStandIn t = false by simpa using List.all_eq_true.1 hall t hm)⟩)
    (by kernel_rfl)
#print axioms fnExactFragments_card
end Go.Proofs.YtcokeankiedfcaaDoor
