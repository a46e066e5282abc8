/-
  DERIVED. GIVEN WITH THE SEED: THE CARDS: each row of YtmbgncgcddjomaaDoorRows.lean that lists a variable, with what it lists TIED to the program's text (the seventh form; the later family's looks); each row that meets fmt, with fmt's text TOLD by the authors' own Lean function (tested against real Go, not proved from fmt's source: count such statements apart). THE CARD IS WHAT COUNTS. Prove the row's statement (the work); the ties are given (YtmbgncgcddjomaaDoorTie.lean); close each card by the builder's one call (the guide's Derived/Test/ToyasCard.lean, 'card_holds'). Laid BY PROGRAM, IN A SANDBOX (cutbox-door.mjs). By AI agents, Wed Nov 11 2026. No macro, syntax, notation, axiom, sorry.
-/
import Derived.Test.YtmbgncgcddjomaaDoorRows
import GoSem.ClaimSeven
namespace Go.Proofs.YtmbgncgcddjomaaDoor
namespace Rows

/-- THE TIED CARD OF 'laws.FnExactSchemaOK'. -/
def fnExactSchemaOKCard : Claim7 := { stood := { row := fnExactSchemaOKRow, standIns := [], harness := (true, "3b9a2f5ed2201253835bd33aecc54bff6e98e0fa04e39ae529def75a52d5dbb4"), looks := false }, kinds := [], alts := [], laidByText := true, laidKinds := [.data, .pinned], laidTests := true, laidLooks := .later }
def FnExactSchemaOKCardSaid : Prop := Claim7.holds Tryd.pinned (.plain (OpenSpec.ofChange fnExactSchemaOKSpec)) fnExactSchemaOKCard

/-- THE SECOND FORM's CARD OF 'laws.FnExactSchemaOK'. -/
def fnExactSchemaOKUptoCard : Claim7 := { stood := { row := fnExactSchemaOKUptoRow, standIns := [], harness := (true, "3b9a2f5ed2201253835bd33aecc54bff6e98e0fa04e39ae529def75a52d5dbb4"), looks := false }, kinds := [], alts := [], laidByText := true, laidKinds := [.data, .pinned], laidTests := true, laidLooks := .later }
def FnExactSchemaOKUptoCardSaid : Prop := Claim7.holds Tryd.pinned (.plain (OpenSpec.upto fnExactSchemaOKSpec)) fnExactSchemaOKUptoCard
end Rows
end Go.Proofs.YtmbgncgcddjomaaDoor
