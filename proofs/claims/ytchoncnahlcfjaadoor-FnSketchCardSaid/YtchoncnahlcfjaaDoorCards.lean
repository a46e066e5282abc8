/-
  DERIVED. GIVEN WITH THE SEED: THE CARDS: each row of YtchoncnahlcfjaaDoorRows.lean that lists a variable, with what it lists TIED to the program's text (the seventh form; the later family's looks); each row that meets fmt, with fmt's text TOLD by the authors' own Lean function (tested against real Go, not proved from fmt's source: count such statements apart). THE CARD IS WHAT COUNTS. Prove the row's statement (the work); the ties are given (YtchoncnahlcfjaaDoorTie.lean); close each card by the builder's one call (the guide's Derived/Test/ToyasCard.lean, 'card_holds'). Laid BY PROGRAM, IN A SANDBOX (cutbox-door.mjs). By AI agents, Wed Nov 11 2026. No macro, syntax, notation, axiom, sorry.
-/
import Derived.Test.YtchoncnahlcfjaaDoorRows
import GoSem.ClaimSeven
namespace Go.Proofs.YtchoncnahlcfjaaDoor
namespace Rows

/-- THE TIED CARD OF 'laws.FnExactSketchOf'. -/
def fnExactSketchOfCard : Claim7 := { stood := { row := fnExactSketchOfRow, standIns := [], harness := (true, "67b58450f51d1f7f1750f2d9ffbe0c4edfcae4ae147642cebeea226ea29a5421"), looks := false }, kinds := [], alts := [], laidByText := true, laidKinds := [.data], laidTests := true, laidLooks := .later }
def FnExactSketchOfCardSaid : Prop := Claim7.holds Tryd.pinned (.plain (OpenSpec.ofChange fnExactSketchOfSpec)) fnExactSketchOfCard

/-- THE TIED CARD OF 'laws.FnSketch'. -/
def fnSketchCard : Claim7 := { stood := { row := fnSketchRow, standIns := [], harness := (true, "67b58450f51d1f7f1750f2d9ffbe0c4edfcae4ae147642cebeea226ea29a5421"), looks := false }, kinds := [], alts := [], laidByText := true, laidKinds := [.data], laidTests := true, laidLooks := .later }
def FnSketchCardSaid : Prop := Claim7.holds Tryd.pinned (.plain (OpenSpec.ofChange fnSketchSpec)) fnSketchCard

/-- THE SECOND FORM's CARD OF 'laws.FnExactSketchOf'. -/
def fnExactSketchOfUptoCard : Claim7 := { stood := { row := fnExactSketchOfUptoRow, standIns := [], harness := (true, "67b58450f51d1f7f1750f2d9ffbe0c4edfcae4ae147642cebeea226ea29a5421"), looks := false }, kinds := [], alts := [], laidByText := true, laidKinds := [.data], laidTests := true, laidLooks := .later }
def FnExactSketchOfUptoCardSaid : Prop := Claim7.holds Tryd.pinned (.plain (OpenSpec.upto fnExactSketchOfSpec)) fnExactSketchOfUptoCard

/-- THE SECOND FORM's CARD OF 'laws.FnSketch'. -/
def fnSketchUptoCard : Claim7 := { stood := { row := fnSketchUptoRow, standIns := [], harness := (true, "67b58450f51d1f7f1750f2d9ffbe0c4edfcae4ae147642cebeea226ea29a5421"), looks := false }, kinds := [], alts := [], laidByText := true, laidKinds := [.data], laidTests := true, laidLooks := .later }
def FnSketchUptoCardSaid : Prop := Claim7.holds Tryd.pinned (.plain (OpenSpec.upto fnSketchSpec)) fnSketchUptoCard
end Rows
end Go.Proofs.YtchoncnahlcfjaaDoor
