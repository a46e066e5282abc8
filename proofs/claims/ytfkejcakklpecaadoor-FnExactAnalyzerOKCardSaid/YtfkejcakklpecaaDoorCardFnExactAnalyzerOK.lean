/- The card of the law FnExactAnalyzerOK: the row holds, and what it lists of the library's tables is tied to the program's text by the given tie. Condition: the translator's report that nothing else writes the listed variables. -/
import Derived.Test.YtfkejcakklpecaaDoorRowFnExactAnalyzerOK
import Derived.Test.YtfkejcakklpecaaDoorCards
import Derived.Test.YtfkejcakklpecaaDoorTie
import Derived.SevenTiedAt
namespace Go.Proofs.YtfkejcakklpecaaDoor
open Go
/-- THE CARD. -/
theorem fnExactAnalyzerOK_card : Rows.FnExactAnalyzerOKCardSaid :=
  Claim7.holds_tied_plain_at .later [] [.data, .pinned] true (true, "1136e8d7836863a1f8e5065ca656ba7c9ef45221b758e72269f5b072286aaba4") false fnExactAnalyzerOK.over (fun _ h => by cases h) (by kernel_rfl) (fun _ h => by cases h) fnExactAnalyzerOK_row_tie rfl ⟨rfl, rfl⟩ (by kernel_rfl) rfl
    (fun f fn hf hfn => by
      obtain rfl : f = 3 := Option.some.inj ((show Tryd.prog.funcNamed Rows.fnExactAnalyzerOKRow.func = some 3 by kernel_rfl).symm.trans hf) |>.symm
      obtain rfl : fn = Tryd.f3 := (Option.some.inj (Tryd.func3.symm.trans hfn)).symm
      exact ⟨by kernel_rfl, fun j t ht => by
        rw [Tryd.params3] at ht
        have hm : t ∈ [25] := by simpa using Array.mem_of_getElem? ht
        have hall : ([25].all fun u => !Tryd.prog.wantsStandIn u) = true := by kernel_rfl
        exact (show Tryd.prog.wantsStandIn t = false by simpa using List.all_eq_true.1 hall t hm)⟩)
    (by kernel_rfl)
#print axioms fnExactAnalyzerOK_card
end Go.Proofs.YtfkejcakklpecaaDoor
