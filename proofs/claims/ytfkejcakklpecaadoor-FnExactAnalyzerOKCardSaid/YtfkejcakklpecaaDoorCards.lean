/-
  DERIVED. GIVEN WITH THE SEED: THE CARDS: each row of YtfkejcakklpecaaDoorRows.lean that lists a variable, with what it lists TIED to the program's text (the seventh form; the later family's looks); each row that meets fmt, with fmt's text TOLD by the authors' own Lean function (tested against real Go, not proved from fmt's source: count such statements apart). THE CARD IS WHAT COUNTS. Prove the row's statement (the work); the ties are given (YtfkejcakklpecaaDoorTie.lean); close each card by the builder's one call (the guide's Derived/Test/ToyasCard.lean, 'card_holds'). Laid BY PROGRAM, IN A SANDBOX (cutbox-door.mjs). By AI agents, Wed Nov 11 2026. No macro, syntax, notation, axiom, sorry.
-/
import Derived.Test.YtfkejcakklpecaaDoorRows
import GoSem.ClaimSeven
namespace Go.Proofs.YtfkejcakklpecaaDoor
namespace Rows

/-- THE TIED CARD OF 'laws.FnExactAnalyzerOK'. -/
def fnExactAnalyzerOKCard : Claim7 := { stood := { row := fnExactAnalyzerOKRow, standIns := [], harness := (true, "1136e8d7836863a1f8e5065ca656ba7c9ef45221b758e72269f5b072286aaba4"), looks := false }, kinds := [], alts := [], laidByText := true, laidKinds := [.data, .pinned], laidTests := true, laidLooks := .later }
def FnExactAnalyzerOKCardSaid : Prop := Claim7.holds Tryd.pinned (.plain (OpenSpec.ofChange fnExactAnalyzerOKSpec)) fnExactAnalyzerOKCard

/-- THE SECOND FORM's CARD OF 'laws.FnExactAnalyzerOK'. -/
def fnExactAnalyzerOKUptoCard : Claim7 := { stood := { row := fnExactAnalyzerOKUptoRow, standIns := [], harness := (true, "1136e8d7836863a1f8e5065ca656ba7c9ef45221b758e72269f5b072286aaba4"), looks := false }, kinds := [], alts := [], laidByText := true, laidKinds := [.data, .pinned], laidTests := true, laidLooks := .later }
def FnExactAnalyzerOKUptoCardSaid : Prop := Claim7.holds Tryd.pinned (.plain (OpenSpec.upto fnExactAnalyzerOKSpec)) fnExactAnalyzerOKUptoCard
end Rows
end Go.Proofs.YtfkejcakklpecaaDoor
