/-
  DERIVED. GIVEN WITH THE SEED: THE CARDS: each row of YtcokeankiedfcaaDoorRows.lean that lists a variable, with what it lists TIED to the program's text (the seventh form; the later family's looks); each row that meets fmt, with fmt's text TOLD by the authors' own Lean function (tested against real Go, not proved from fmt's source: count such statements apart). THE CARD IS WHAT COUNTS. Prove the row's statement (the work); the ties are given (YtcokeankiedfcaaDoorTie.lean); close each card by the builder's one call (the guide's Derived/Test/ToyasCard.lean, 'card_holds'). Laid BY PROGRAM, IN A SANDBOX (cutbox-door.mjs). By AI agents, Wed Nov 11 2026. No macro, syntax, notation, axiom, sorry.
-/
import Derived.Test.YtcokeankiedfcaaDoorRows
import GoSem.ClaimSeven
namespace Go.Proofs.YtcokeankiedfcaaDoor
namespace Rows

/-- THE TIED CARD OF 'laws.FnExactDecode'. -/
def fnExactDecodeCard : Claim7 := { stood := { row := fnExactDecodeRow, standIns := [], harness := (true, "52fcbdb311a9c3cff60de70d26275bb578220998e2bbecfaa369616d372feebc"), looks := false }, kinds := [], alts := [], laidByText := true, laidKinds := [.data, .pinned], laidTests := true, laidLooks := .later }
def FnExactDecodeCardSaid : Prop := Claim7.holds Tryd.pinned (.plain (OpenSpec.ofChange fnExactDecodeSpec)) fnExactDecodeCard

/-- THE TIED CARD OF 'laws.FnExactFoldText'. -/
def fnExactFoldTextCard : Claim7 := { stood := { row := fnExactFoldTextRow, standIns := [], harness := (true, "52fcbdb311a9c3cff60de70d26275bb578220998e2bbecfaa369616d372feebc"), looks := false }, kinds := [], alts := [], laidByText := true, laidKinds := [.data, .pinned], laidTests := true, laidLooks := .later }
def FnExactFoldTextCardSaid : Prop := Claim7.holds Tryd.pinned (.plain (OpenSpec.ofChange fnExactFoldTextSpec)) fnExactFoldTextCard

/-- THE TIED CARD OF 'laws.FnExactEdits'. -/
def fnExactEditsCard : Claim7 := { stood := { row := fnExactEditsRow, standIns := [], harness := (true, "52fcbdb311a9c3cff60de70d26275bb578220998e2bbecfaa369616d372feebc"), looks := false }, kinds := [], alts := [], laidByText := true, laidKinds := [.data, .pinned], laidTests := true, laidLooks := .later }
def FnExactEditsCardSaid : Prop := Claim7.holds Tryd.pinned (.plain (OpenSpec.ofChange fnExactEditsSpec)) fnExactEditsCard

/-- THE TIED CARD OF 'laws.FnDistance'. -/
def fnDistanceCard : Claim7 := { stood := { row := fnDistanceRow, standIns := [], harness := (true, "52fcbdb311a9c3cff60de70d26275bb578220998e2bbecfaa369616d372feebc"), looks := false }, kinds := [], alts := [], laidByText := true, laidKinds := [.data, .pinned], laidTests := true, laidLooks := .later }
def FnDistanceCardSaid : Prop := Claim7.holds Tryd.pinned (.plain (OpenSpec.ofChange fnDistanceSpec)) fnDistanceCard

/-- THE TIED CARD OF 'laws.FnExactLikeText'. -/
def fnExactLikeTextCard : Claim7 := { stood := { row := fnExactLikeTextRow, standIns := [], harness := (true, "52fcbdb311a9c3cff60de70d26275bb578220998e2bbecfaa369616d372feebc"), looks := false }, kinds := [], alts := [], laidByText := true, laidKinds := [.data, .pinned], laidTests := true, laidLooks := .later }
def FnExactLikeTextCardSaid : Prop := Claim7.holds Tryd.pinned (.plain (OpenSpec.ofChange fnExactLikeTextSpec)) fnExactLikeTextCard

/-- THE TIED CARD OF 'laws.FnExactGrams'. -/
def fnExactGramsCard : Claim7 := { stood := { row := fnExactGramsRow, standIns := [], harness := (true, "52fcbdb311a9c3cff60de70d26275bb578220998e2bbecfaa369616d372feebc"), looks := false }, kinds := [], alts := [], laidByText := true, laidKinds := [.data, .pinned], laidTests := true, laidLooks := .later }
def FnExactGramsCardSaid : Prop := Claim7.holds Tryd.pinned (.plain (OpenSpec.ofChange fnExactGramsSpec)) fnExactGramsCard

/-- THE TIED CARD OF 'laws.FnExactBreak'. -/
def fnExactBreakCard : Claim7 := { stood := { row := fnExactBreakRow, standIns := [], harness := (true, "52fcbdb311a9c3cff60de70d26275bb578220998e2bbecfaa369616d372feebc"), looks := false }, kinds := [], alts := [], laidByText := true, laidKinds := [.data, .pinned], laidTests := true, laidLooks := .later }
def FnExactBreakCardSaid : Prop := Claim7.holds Tryd.pinned (.plain (OpenSpec.ofChange fnExactBreakSpec)) fnExactBreakCard

/-- THE TIED CARD OF 'laws.FnText'. -/
def fnTextCard : Claim7 := { stood := { row := fnTextRow, standIns := [], harness := (true, "52fcbdb311a9c3cff60de70d26275bb578220998e2bbecfaa369616d372feebc"), looks := false }, kinds := [], alts := [], laidByText := true, laidKinds := [.data, .pinned], laidTests := true, laidLooks := .later }
def FnTextCardSaid : Prop := Claim7.holds Tryd.pinned (.plain (OpenSpec.ofChange fnTextSpec)) fnTextCard

/-- THE TIED CARD OF 'laws.FnExactAccepts'. -/
def fnExactAcceptsCard : Claim7 := { stood := { row := fnExactAcceptsRow, standIns := [], harness := (true, "52fcbdb311a9c3cff60de70d26275bb578220998e2bbecfaa369616d372feebc"), looks := false }, kinds := [], alts := [], laidByText := true, laidKinds := [.data, .pinned], laidTests := true, laidLooks := .later }
def FnExactAcceptsCardSaid : Prop := Claim7.holds Tryd.pinned (.plain (OpenSpec.ofChange fnExactAcceptsSpec)) fnExactAcceptsCard

/-- THE TIED CARD OF 'laws.FnExactFragments'. -/
def fnExactFragmentsCard : Claim7 := { stood := { row := fnExactFragmentsRow, standIns := [], harness := (true, "52fcbdb311a9c3cff60de70d26275bb578220998e2bbecfaa369616d372feebc"), looks := false }, kinds := [], alts := [], laidByText := true, laidKinds := [.data, .pinned], laidTests := true, laidLooks := .later }
def FnExactFragmentsCardSaid : Prop := Claim7.holds Tryd.pinned (.plain (OpenSpec.ofChange fnExactFragmentsSpec)) fnExactFragmentsCard

/-- THE TIED CARD OF 'laws.FnExactSuggest'. -/
def fnExactSuggestCard : Claim7 := { stood := { row := fnExactSuggestRow, standIns := [], harness := (true, "52fcbdb311a9c3cff60de70d26275bb578220998e2bbecfaa369616d372feebc"), looks := false }, kinds := [], alts := [], laidByText := true, laidKinds := [.data, .pinned], laidTests := true, laidLooks := .later }
def FnExactSuggestCardSaid : Prop := Claim7.holds Tryd.pinned (.plain (OpenSpec.ofChange fnExactSuggestSpec)) fnExactSuggestCard

/-- THE TIED CARD OF 'laws.FnSuggest'. -/
def fnSuggestCard : Claim7 := { stood := { row := fnSuggestRow, standIns := [], harness := (true, "52fcbdb311a9c3cff60de70d26275bb578220998e2bbecfaa369616d372feebc"), looks := false }, kinds := [], alts := [], laidByText := true, laidKinds := [.data, .pinned], laidTests := true, laidLooks := .later }
def FnSuggestCardSaid : Prop := Claim7.holds Tryd.pinned (.plain (OpenSpec.ofChange fnSuggestSpec)) fnSuggestCard

/-- THE SECOND FORM's CARD OF 'laws.FnExactDecode'. -/
def fnExactDecodeUptoCard : Claim7 := { stood := { row := fnExactDecodeUptoRow, standIns := [], harness := (true, "52fcbdb311a9c3cff60de70d26275bb578220998e2bbecfaa369616d372feebc"), looks := false }, kinds := [], alts := [], laidByText := true, laidKinds := [.data, .pinned], laidTests := true, laidLooks := .later }
def FnExactDecodeUptoCardSaid : Prop := Claim7.holds Tryd.pinned (.plain (OpenSpec.upto fnExactDecodeSpec)) fnExactDecodeUptoCard

/-- THE SECOND FORM's CARD OF 'laws.FnExactFoldText'. -/
def fnExactFoldTextUptoCard : Claim7 := { stood := { row := fnExactFoldTextUptoRow, standIns := [], harness := (true, "52fcbdb311a9c3cff60de70d26275bb578220998e2bbecfaa369616d372feebc"), looks := false }, kinds := [], alts := [], laidByText := true, laidKinds := [.data, .pinned], laidTests := true, laidLooks := .later }
def FnExactFoldTextUptoCardSaid : Prop := Claim7.holds Tryd.pinned (.plain (OpenSpec.upto fnExactFoldTextSpec)) fnExactFoldTextUptoCard

/-- THE SECOND FORM's CARD OF 'laws.FnExactEdits'. -/
def fnExactEditsUptoCard : Claim7 := { stood := { row := fnExactEditsUptoRow, standIns := [], harness := (true, "52fcbdb311a9c3cff60de70d26275bb578220998e2bbecfaa369616d372feebc"), looks := false }, kinds := [], alts := [], laidByText := true, laidKinds := [.data, .pinned], laidTests := true, laidLooks := .later }
def FnExactEditsUptoCardSaid : Prop := Claim7.holds Tryd.pinned (.plain (OpenSpec.upto fnExactEditsSpec)) fnExactEditsUptoCard

/-- THE SECOND FORM's CARD OF 'laws.FnDistance'. -/
def fnDistanceUptoCard : Claim7 := { stood := { row := fnDistanceUptoRow, standIns := [], harness := (true, "52fcbdb311a9c3cff60de70d26275bb578220998e2bbecfaa369616d372feebc"), looks := false }, kinds := [], alts := [], laidByText := true, laidKinds := [.data, .pinned], laidTests := true, laidLooks := .later }
def FnDistanceUptoCardSaid : Prop := Claim7.holds Tryd.pinned (.plain (OpenSpec.upto fnDistanceSpec)) fnDistanceUptoCard

/-- THE SECOND FORM's CARD OF 'laws.FnExactLikeText'. -/
def fnExactLikeTextUptoCard : Claim7 := { stood := { row := fnExactLikeTextUptoRow, standIns := [], harness := (true, "52fcbdb311a9c3cff60de70d26275bb578220998e2bbecfaa369616d372feebc"), looks := false }, kinds := [], alts := [], laidByText := true, laidKinds := [.data, .pinned], laidTests := true, laidLooks := .later }
def FnExactLikeTextUptoCardSaid : Prop := Claim7.holds Tryd.pinned (.plain (OpenSpec.upto fnExactLikeTextSpec)) fnExactLikeTextUptoCard

/-- THE SECOND FORM's CARD OF 'laws.FnExactGrams'. -/
def fnExactGramsUptoCard : Claim7 := { stood := { row := fnExactGramsUptoRow, standIns := [], harness := (true, "52fcbdb311a9c3cff60de70d26275bb578220998e2bbecfaa369616d372feebc"), looks := false }, kinds := [], alts := [], laidByText := true, laidKinds := [.data, .pinned], laidTests := true, laidLooks := .later }
def FnExactGramsUptoCardSaid : Prop := Claim7.holds Tryd.pinned (.plain (OpenSpec.upto fnExactGramsSpec)) fnExactGramsUptoCard

/-- THE SECOND FORM's CARD OF 'laws.FnExactBreak'. -/
def fnExactBreakUptoCard : Claim7 := { stood := { row := fnExactBreakUptoRow, standIns := [], harness := (true, "52fcbdb311a9c3cff60de70d26275bb578220998e2bbecfaa369616d372feebc"), looks := false }, kinds := [], alts := [], laidByText := true, laidKinds := [.data, .pinned], laidTests := true, laidLooks := .later }
def FnExactBreakUptoCardSaid : Prop := Claim7.holds Tryd.pinned (.plain (OpenSpec.upto fnExactBreakSpec)) fnExactBreakUptoCard

/-- THE SECOND FORM's CARD OF 'laws.FnText'. -/
def fnTextUptoCard : Claim7 := { stood := { row := fnTextUptoRow, standIns := [], harness := (true, "52fcbdb311a9c3cff60de70d26275bb578220998e2bbecfaa369616d372feebc"), looks := false }, kinds := [], alts := [], laidByText := true, laidKinds := [.data, .pinned], laidTests := true, laidLooks := .later }
def FnTextUptoCardSaid : Prop := Claim7.holds Tryd.pinned (.plain (OpenSpec.upto fnTextSpec)) fnTextUptoCard

/-- THE SECOND FORM's CARD OF 'laws.FnExactAccepts'. -/
def fnExactAcceptsUptoCard : Claim7 := { stood := { row := fnExactAcceptsUptoRow, standIns := [], harness := (true, "52fcbdb311a9c3cff60de70d26275bb578220998e2bbecfaa369616d372feebc"), looks := false }, kinds := [], alts := [], laidByText := true, laidKinds := [.data, .pinned], laidTests := true, laidLooks := .later }
def FnExactAcceptsUptoCardSaid : Prop := Claim7.holds Tryd.pinned (.plain (OpenSpec.upto fnExactAcceptsSpec)) fnExactAcceptsUptoCard

/-- THE SECOND FORM's CARD OF 'laws.FnExactFragments'. -/
def fnExactFragmentsUptoCard : Claim7 := { stood := { row := fnExactFragmentsUptoRow, standIns := [], harness := (true, "52fcbdb311a9c3cff60de70d26275bb578220998e2bbecfaa369616d372feebc"), looks := false }, kinds := [], alts := [], laidByText := true, laidKinds := [.data, .pinned], laidTests := true, laidLooks := .later }
def FnExactFragmentsUptoCardSaid : Prop := Claim7.holds Tryd.pinned (.plain (OpenSpec.upto fnExactFragmentsSpec)) fnExactFragmentsUptoCard

/-- THE SECOND FORM's CARD OF 'laws.FnExactSuggest'. -/
def fnExactSuggestUptoCard : Claim7 := { stood := { row := fnExactSuggestUptoRow, standIns := [], harness := (true, "52fcbdb311a9c3cff60de70d26275bb578220998e2bbecfaa369616d372feebc"), looks := false }, kinds := [], alts := [], laidByText := true, laidKinds := [.data, .pinned], laidTests := true, laidLooks := .later }
def FnExactSuggestUptoCardSaid : Prop := Claim7.holds Tryd.pinned (.plain (OpenSpec.upto fnExactSuggestSpec)) fnExactSuggestUptoCard

/-- THE SECOND FORM's CARD OF 'laws.FnSuggest'. -/
def fnSuggestUptoCard : Claim7 := { stood := { row := fnSuggestUptoRow, standIns := [], harness := (true, "52fcbdb311a9c3cff60de70d26275bb578220998e2bbecfaa369616d372feebc"), looks := false }, kinds := [], alts := [], laidByText := true, laidKinds := [.data, .pinned], laidTests := true, laidLooks := .later }
def FnSuggestUptoCardSaid : Prop := Claim7.holds Tryd.pinned (.plain (OpenSpec.upto fnSuggestSpec)) fnSuggestUptoCard
end Rows
end Go.Proofs.YtcokeankiedfcaaDoor
