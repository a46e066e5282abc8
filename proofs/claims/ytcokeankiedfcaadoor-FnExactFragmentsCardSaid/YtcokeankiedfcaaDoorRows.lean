/-
  NARROWER THAN 'FOR EVERY INPUT', by the rows' own cells (each row's printed sentence says how): FnExactDecode: laid · FnExactFoldText: laid · FnExactEdits: laid · FnDistance: laid · FnExactLikeText: laid · FnExactGrams: laid · FnExactBreak: laid · FnText: laid · FnExactAccepts: laid · FnExactFragments: laid · FnExactSuggest: laid · FnSuggest: laid.
  DERIVED. THE GIVEN ROWS OF THIS SEAT. 12 by the template 'for every input the law returns true; each argument reads behind the call as it read before'; 0 by the template 'total and deterministic' (their statements: YtcokeankiedfcaaDoorTotals.lean).
  GIVEN WITH THE SEED: the statements are not yours to turn. If you find one false, say at which input.
  Laid BY PROGRAM, IN A SANDBOX (cutbox-rows.mjs): the forced cells as the released guide's own fill.sh prints them over the translation 966f4f6e0b27db80… (all of the seat's roots in one cut). By AI agents, Wed Nov 11 2026. No macro, syntax, notation, axiom, sorry.
-/
import Derived.Test.YtcokeankiedfcaaDoorChecked
import GoSem.PinnedTables
import GoSem.Claim
import GoSem.ClaimJoined
import GoSem.ClaimMapViews
import Derived.JoinedTies
import Derived.KernelRfl
namespace Go.Proofs.YtcokeankiedfcaaDoor
/- THE CELL 'sum', in the pinned program and in every row, IS THE sha256 OF THE DUMP (.gsa) THAT YtcokeankiedfcaaDoorProg.lean LOADS. Nothing in Lean hashes anything: it is a label: what it is worth is what the hold of that sum in a sandbox is worth. -/
noncomputable def Tryd.pinned : Pinned := { name := "ytcokeankiedfcaadoor", sum := "966f4f6e0b27db80832d1500a805c097f48e4f1c7a02821f7503f9ad11ddb080", checked := Tryd.checked }
namespace Rows
def none {H : Type} : Left H := { results := [], args := [] }

/- WHAT THE LISTED PACKAGE-LEVEL VARIABLES READ AS WHEN THE CALL BEGINS. Each datum BY PROGRAM (the guide's laid-datum.mjs) off the statement by which the dump's own 'gosem.cut.vars' lays the variable. In a bare row this is a premise. The card (YtcokeankiedfcaaDoorCards.lean) ties it to the program's text. -/
def laid_unicode_utf8_acceptRanges {H : Type} : DataW H := .agg [.agg [.lit (.int .u8 128), .lit (.int .u8 191)], .agg [.lit (.int .u8 160), .lit (.int .u8 191)], .agg [.lit (.int .u8 128), .lit (.int .u8 159)], .agg [.lit (.int .u8 144), .lit (.int .u8 191)], .agg [.lit (.int .u8 128), .lit (.int .u8 143)], .agg [.lit (.int .u8 0), .lit (.int .u8 0)], .agg [.lit (.int .u8 0), .lit (.int .u8 0)], .agg [.lit (.int .u8 0), .lit (.int .u8 0)], .agg [.lit (.int .u8 0), .lit (.int .u8 0)], .agg [.lit (.int .u8 0), .lit (.int .u8 0)], .agg [.lit (.int .u8 0), .lit (.int .u8 0)], .agg [.lit (.int .u8 0), .lit (.int .u8 0)], .agg [.lit (.int .u8 0), .lit (.int .u8 0)], .agg [.lit (.int .u8 0), .lit (.int .u8 0)], .agg [.lit (.int .u8 0), .lit (.int .u8 0)], .agg [.lit (.int .u8 0), .lit (.int .u8 0)]]
/-- One of Go's own tables, pinned by name: the form's constant. -/
def laid_unicode_utf8_first : DataW Unit := Go.Pinned.utf8First

/-- 'laws.FnExactDecode': WHATEVER THE INPUT: true; the input reads as it did. -/
def fnExactDecodeSpec : ChangeSpec := { name := "fnExactDecode", fn := fun _ => fun
  | [d] => { results := [.lit (.bool true)], args := [d] }
  | _ => none }
def fnExactDecodeRow : OpenClaim := { program := "ytcokeankiedfcaadoor", sum := "966f4f6e0b27db80832d1500a805c097f48e4f1c7a02821f7503f9ad11ddb080", func := "loop.example/g00018/laws.FnExactDecode", spec := "fnExactDecode", named := ["unicode/utf8.first", "unicode/utf8.acceptRanges"], apart := false, laid := [("unicode/utf8.acceptRanges", laid_unicode_utf8_acceptRanges), ("unicode/utf8.first", laid_unicode_utf8_first)] }
def FnExactDecodeSaid : Prop := fnExactDecodeRow.holds Tryd.pinned (OpenSpec.ofChange fnExactDecodeSpec)

/-- ITS FALSE NEIGHBOUR: 'it returns false'. Refute it at one input. -/
def fnExactDecodeWrong : ChangeSpec := { name := "fnExactDecode", fn := fun _ => fun
  | [d] => { results := [.lit (.bool false)], args := [d] }
  | _ => none }
def FnExactDecodeWrongFalsely : Prop := fnExactDecodeRow.holds Tryd.pinned (OpenSpec.ofChange fnExactDecodeWrong)

/-- 'laws.FnExactFoldText': WHATEVER THE INPUT: true; the input reads as it did. -/
def fnExactFoldTextSpec : ChangeSpec := { name := "fnExactFoldText", fn := fun _ => fun
  | [d] => { results := [.lit (.bool true)], args := [d] }
  | _ => none }
def fnExactFoldTextRow : OpenClaim := { program := "ytcokeankiedfcaadoor", sum := "966f4f6e0b27db80832d1500a805c097f48e4f1c7a02821f7503f9ad11ddb080", func := "loop.example/g00018/laws.FnExactFoldText", spec := "fnExactFoldText", named := ["unicode/utf8.first", "unicode/utf8.acceptRanges"], apart := false, laid := [("unicode/utf8.acceptRanges", laid_unicode_utf8_acceptRanges), ("unicode/utf8.first", laid_unicode_utf8_first)] }
def FnExactFoldTextSaid : Prop := fnExactFoldTextRow.holds Tryd.pinned (OpenSpec.ofChange fnExactFoldTextSpec)

/-- ITS FALSE NEIGHBOUR: 'it returns false'. Refute it at one input. -/
def fnExactFoldTextWrong : ChangeSpec := { name := "fnExactFoldText", fn := fun _ => fun
  | [d] => { results := [.lit (.bool false)], args := [d] }
  | _ => none }
def FnExactFoldTextWrongFalsely : Prop := fnExactFoldTextRow.holds Tryd.pinned (OpenSpec.ofChange fnExactFoldTextWrong)

/-- 'laws.FnExactEdits': WHATEVER THE INPUT: true; the input reads as it did. -/
def fnExactEditsSpec : ChangeSpec := { name := "fnExactEdits", fn := fun _ => fun
  | [d1, d2] => { results := [.lit (.bool true)], args := [d1, d2] }
  | _ => none }
def fnExactEditsRow : OpenClaim := { program := "ytcokeankiedfcaadoor", sum := "966f4f6e0b27db80832d1500a805c097f48e4f1c7a02821f7503f9ad11ddb080", func := "loop.example/g00018/laws.FnExactEdits", spec := "fnExactEdits", named := ["unicode/utf8.first", "unicode/utf8.acceptRanges"], apart := false, laid := [("unicode/utf8.acceptRanges", laid_unicode_utf8_acceptRanges), ("unicode/utf8.first", laid_unicode_utf8_first)] }
def FnExactEditsSaid : Prop := fnExactEditsRow.holds Tryd.pinned (OpenSpec.ofChange fnExactEditsSpec)

/-- ITS FALSE NEIGHBOUR: 'it returns false'. Refute it at one input. -/
def fnExactEditsWrong : ChangeSpec := { name := "fnExactEdits", fn := fun _ => fun
  | [d1, d2] => { results := [.lit (.bool false)], args := [d1, d2] }
  | _ => none }
def FnExactEditsWrongFalsely : Prop := fnExactEditsRow.holds Tryd.pinned (OpenSpec.ofChange fnExactEditsWrong)

/-- 'laws.FnDistance': WHATEVER THE INPUT: true; the input reads as it did. -/
def fnDistanceSpec : ChangeSpec := { name := "fnDistance", fn := fun _ => fun
  | [d1, d2] => { results := [.lit (.bool true)], args := [d1, d2] }
  | _ => none }
def fnDistanceRow : OpenClaim := { program := "ytcokeankiedfcaadoor", sum := "966f4f6e0b27db80832d1500a805c097f48e4f1c7a02821f7503f9ad11ddb080", func := "loop.example/g00018/laws.FnDistance", spec := "fnDistance", named := ["unicode/utf8.first", "unicode/utf8.acceptRanges"], apart := false, laid := [("unicode/utf8.acceptRanges", laid_unicode_utf8_acceptRanges), ("unicode/utf8.first", laid_unicode_utf8_first)] }
def FnDistanceSaid : Prop := fnDistanceRow.holds Tryd.pinned (OpenSpec.ofChange fnDistanceSpec)

/-- ITS FALSE NEIGHBOUR: 'it returns false'. Refute it at one input. -/
def fnDistanceWrong : ChangeSpec := { name := "fnDistance", fn := fun _ => fun
  | [d1, d2] => { results := [.lit (.bool false)], args := [d1, d2] }
  | _ => none }
def FnDistanceWrongFalsely : Prop := fnDistanceRow.holds Tryd.pinned (OpenSpec.ofChange fnDistanceWrong)

/-- 'laws.FnExactLikeText': WHATEVER THE INPUT: true; the input reads as it did. -/
def fnExactLikeTextSpec : ChangeSpec := { name := "fnExactLikeText", fn := fun _ => fun
  | [d1, d2] => { results := [.lit (.bool true)], args := [d1, d2] }
  | _ => none }
def fnExactLikeTextRow : OpenClaim := { program := "ytcokeankiedfcaadoor", sum := "966f4f6e0b27db80832d1500a805c097f48e4f1c7a02821f7503f9ad11ddb080", func := "loop.example/g00018/laws.FnExactLikeText", spec := "fnExactLikeText", named := ["unicode/utf8.first", "unicode/utf8.acceptRanges"], apart := false, laid := [("unicode/utf8.acceptRanges", laid_unicode_utf8_acceptRanges), ("unicode/utf8.first", laid_unicode_utf8_first)] }
def FnExactLikeTextSaid : Prop := fnExactLikeTextRow.holds Tryd.pinned (OpenSpec.ofChange fnExactLikeTextSpec)

/-- ITS FALSE NEIGHBOUR: 'it returns false'. Refute it at one input. -/
def fnExactLikeTextWrong : ChangeSpec := { name := "fnExactLikeText", fn := fun _ => fun
  | [d1, d2] => { results := [.lit (.bool false)], args := [d1, d2] }
  | _ => none }
def FnExactLikeTextWrongFalsely : Prop := fnExactLikeTextRow.holds Tryd.pinned (OpenSpec.ofChange fnExactLikeTextWrong)

/-- 'laws.FnExactGrams': WHATEVER THE INPUT: true; the input reads as it did. -/
def fnExactGramsSpec : ChangeSpec := { name := "fnExactGrams", fn := fun _ => fun
  | [d1, d2, d3] => { results := [.lit (.bool true)], args := [d1, d2, d3] }
  | _ => none }
def fnExactGramsRow : OpenClaim := { program := "ytcokeankiedfcaadoor", sum := "966f4f6e0b27db80832d1500a805c097f48e4f1c7a02821f7503f9ad11ddb080", func := "loop.example/g00018/laws.FnExactGrams", spec := "fnExactGrams", named := ["unicode/utf8.first", "unicode/utf8.acceptRanges"], apart := false, laid := [("unicode/utf8.acceptRanges", laid_unicode_utf8_acceptRanges), ("unicode/utf8.first", laid_unicode_utf8_first)] }
def FnExactGramsSaid : Prop := fnExactGramsRow.holds Tryd.pinned (OpenSpec.ofChange fnExactGramsSpec)

/-- ITS FALSE NEIGHBOUR: 'it returns false'. Refute it at one input. -/
def fnExactGramsWrong : ChangeSpec := { name := "fnExactGrams", fn := fun _ => fun
  | [d1, d2, d3] => { results := [.lit (.bool false)], args := [d1, d2, d3] }
  | _ => none }
def FnExactGramsWrongFalsely : Prop := fnExactGramsRow.holds Tryd.pinned (OpenSpec.ofChange fnExactGramsWrong)

/-- 'laws.FnExactBreak': WHATEVER THE INPUT: true; the input reads as it did. -/
def fnExactBreakSpec : ChangeSpec := { name := "fnExactBreak", fn := fun _ => fun
  | [d] => { results := [.lit (.bool true)], args := [d] }
  | _ => none }
def fnExactBreakRow : OpenClaim := { program := "ytcokeankiedfcaadoor", sum := "966f4f6e0b27db80832d1500a805c097f48e4f1c7a02821f7503f9ad11ddb080", func := "loop.example/g00018/laws.FnExactBreak", spec := "fnExactBreak", unfollowed := true, recurses := true, named := ["unicode/utf8.first", "unicode/utf8.acceptRanges"], apart := false, laid := [("unicode/utf8.acceptRanges", laid_unicode_utf8_acceptRanges), ("unicode/utf8.first", laid_unicode_utf8_first)] }
def FnExactBreakSaid : Prop := fnExactBreakRow.holds Tryd.pinned (OpenSpec.ofChange fnExactBreakSpec)

/-- ITS FALSE NEIGHBOUR: 'it returns false'. Refute it at one input. -/
def fnExactBreakWrong : ChangeSpec := { name := "fnExactBreak", fn := fun _ => fun
  | [d] => { results := [.lit (.bool false)], args := [d] }
  | _ => none }
def FnExactBreakWrongFalsely : Prop := fnExactBreakRow.holds Tryd.pinned (OpenSpec.ofChange fnExactBreakWrong)

/-- 'laws.FnText': WHATEVER THE INPUT: true; the input reads as it did. -/
def fnTextSpec : ChangeSpec := { name := "fnText", fn := fun _ => fun
  | [d] => { results := [.lit (.bool true)], args := [d] }
  | _ => none }
def fnTextRow : OpenClaim := { program := "ytcokeankiedfcaadoor", sum := "966f4f6e0b27db80832d1500a805c097f48e4f1c7a02821f7503f9ad11ddb080", func := "loop.example/g00018/laws.FnText", spec := "fnText", unfollowed := true, recurses := true, named := ["unicode/utf8.first", "unicode/utf8.acceptRanges"], apart := false, laid := [("unicode/utf8.acceptRanges", laid_unicode_utf8_acceptRanges), ("unicode/utf8.first", laid_unicode_utf8_first)] }
def FnTextSaid : Prop := fnTextRow.holds Tryd.pinned (OpenSpec.ofChange fnTextSpec)

/-- ITS FALSE NEIGHBOUR: 'it returns false'. Refute it at one input. -/
def fnTextWrong : ChangeSpec := { name := "fnText", fn := fun _ => fun
  | [d] => { results := [.lit (.bool false)], args := [d] }
  | _ => none }
def FnTextWrongFalsely : Prop := fnTextRow.holds Tryd.pinned (OpenSpec.ofChange fnTextWrong)

/-- 'laws.FnExactAccepts': WHATEVER THE INPUT: true; the input reads as it did. -/
def fnExactAcceptsSpec : ChangeSpec := { name := "fnExactAccepts", fn := fun _ => fun
  | [d1, d2] => { results := [.lit (.bool true)], args := [d1, d2] }
  | _ => none }
def fnExactAcceptsRow : OpenClaim := { program := "ytcokeankiedfcaadoor", sum := "966f4f6e0b27db80832d1500a805c097f48e4f1c7a02821f7503f9ad11ddb080", func := "loop.example/g00018/laws.FnExactAccepts", spec := "fnExactAccepts", named := ["unicode/utf8.first", "unicode/utf8.acceptRanges"], apart := false, laid := [("unicode/utf8.acceptRanges", laid_unicode_utf8_acceptRanges), ("unicode/utf8.first", laid_unicode_utf8_first)] }
def FnExactAcceptsSaid : Prop := fnExactAcceptsRow.holds Tryd.pinned (OpenSpec.ofChange fnExactAcceptsSpec)

/-- ITS FALSE NEIGHBOUR: 'it returns false'. Refute it at one input. -/
def fnExactAcceptsWrong : ChangeSpec := { name := "fnExactAccepts", fn := fun _ => fun
  | [d1, d2] => { results := [.lit (.bool false)], args := [d1, d2] }
  | _ => none }
def FnExactAcceptsWrongFalsely : Prop := fnExactAcceptsRow.holds Tryd.pinned (OpenSpec.ofChange fnExactAcceptsWrong)

/-- 'laws.FnExactFragments': WHATEVER THE INPUT: true; the input reads as it did. -/
def fnExactFragmentsSpec : ChangeSpec := { name := "fnExactFragments", fn := fun _ => fun
  | [d1, d2] => { results := [.lit (.bool true)], args := [d1, d2] }
  | _ => none }
def fnExactFragmentsRow : OpenClaim := { program := "ytcokeankiedfcaadoor", sum := "966f4f6e0b27db80832d1500a805c097f48e4f1c7a02821f7503f9ad11ddb080", func := "loop.example/g00018/laws.FnExactFragments", spec := "fnExactFragments", inPlace := ["internal/abi.NoEscape"], unfollowed := true, recurses := true, named := ["unicode/utf8.first", "unicode/utf8.acceptRanges"], apart := false, laid := [("unicode/utf8.acceptRanges", laid_unicode_utf8_acceptRanges), ("unicode/utf8.first", laid_unicode_utf8_first)] }
def FnExactFragmentsSaid : Prop := fnExactFragmentsRow.holds Tryd.pinned (OpenSpec.ofChange fnExactFragmentsSpec)

/-- ITS FALSE NEIGHBOUR: 'it returns false'. Refute it at one input. -/
def fnExactFragmentsWrong : ChangeSpec := { name := "fnExactFragments", fn := fun _ => fun
  | [d1, d2] => { results := [.lit (.bool false)], args := [d1, d2] }
  | _ => none }
def FnExactFragmentsWrongFalsely : Prop := fnExactFragmentsRow.holds Tryd.pinned (OpenSpec.ofChange fnExactFragmentsWrong)

/-- 'laws.FnExactSuggest': WHATEVER THE INPUT: true; the input reads as it did. -/
def fnExactSuggestSpec : ChangeSpec := { name := "fnExactSuggest", fn := fun _ => fun
  | [d1, d2, d3] => { results := [.lit (.bool true)], args := [d1, d2, d3] }
  | _ => none }
def fnExactSuggestRow : OpenClaim := { program := "ytcokeankiedfcaadoor", sum := "966f4f6e0b27db80832d1500a805c097f48e4f1c7a02821f7503f9ad11ddb080", func := "loop.example/g00018/laws.FnExactSuggest", spec := "fnExactSuggest", inPlace := ["internal/bytealg.abigen_runtime_cmpstring"], unfollowed := true, recurses := true, named := ["unicode/utf8.first", "unicode/utf8.acceptRanges"], apart := false, laid := [("unicode/utf8.acceptRanges", laid_unicode_utf8_acceptRanges), ("unicode/utf8.first", laid_unicode_utf8_first)] }
def FnExactSuggestSaid : Prop := fnExactSuggestRow.holds Tryd.pinned (OpenSpec.ofChange fnExactSuggestSpec)

/-- ITS FALSE NEIGHBOUR: 'it returns false'. Refute it at one input. -/
def fnExactSuggestWrong : ChangeSpec := { name := "fnExactSuggest", fn := fun _ => fun
  | [d1, d2, d3] => { results := [.lit (.bool false)], args := [d1, d2, d3] }
  | _ => none }
def FnExactSuggestWrongFalsely : Prop := fnExactSuggestRow.holds Tryd.pinned (OpenSpec.ofChange fnExactSuggestWrong)

/-- 'laws.FnSuggest': WHATEVER THE INPUT: true; the input reads as it did. -/
def fnSuggestSpec : ChangeSpec := { name := "fnSuggest", fn := fun _ => fun
  | [d] => { results := [.lit (.bool true)], args := [d] }
  | _ => none }
def fnSuggestRow : OpenClaim := { program := "ytcokeankiedfcaadoor", sum := "966f4f6e0b27db80832d1500a805c097f48e4f1c7a02821f7503f9ad11ddb080", func := "loop.example/g00018/laws.FnSuggest", spec := "fnSuggest", inPlace := ["internal/bytealg.abigen_runtime_cmpstring"], unfollowed := true, recurses := true, named := ["unicode/utf8.first", "unicode/utf8.acceptRanges"], apart := false, laid := [("unicode/utf8.acceptRanges", laid_unicode_utf8_acceptRanges), ("unicode/utf8.first", laid_unicode_utf8_first)] }
def FnSuggestSaid : Prop := fnSuggestRow.holds Tryd.pinned (OpenSpec.ofChange fnSuggestSpec)

/-- ITS FALSE NEIGHBOUR: 'it returns false'. Refute it at one input. -/
def fnSuggestWrong : ChangeSpec := { name := "fnSuggest", fn := fun _ => fun
  | [d] => { results := [.lit (.bool false)], args := [d] }
  | _ => none }
def FnSuggestWrongFalsely : Prop := fnSuggestRow.holds Tryd.pinned (OpenSpec.ofChange fnSuggestWrong)

/- THE SECOND FORM. 'bulk': how many values and letters a reading holds, each counted each time it is reached (what is shared counts as often as it is met; a slice's spare places count too). A statement '..UptoSaid' is the law's where the arguments, and the package variables that the reading takes, are together of bulk at most 1048576: NARROWER than '..Said'. Prove '..Said' where nothing that the law and all that it calls make is longer than what came in: it says more and counts as full. Else prove '..UptoSaid'. A law counts once. -/
mutual
def uptoBulk {H : Type} : DataW H → Nat
  | .lit (.string bytes) => bytes.length + 1
  | .lit _ => 1
  | .nil => 1
  | .ptr d => uptoBulk d + 1
  | .slice elems spare => uptoBulkAll elems + uptoBulkAll spare + 1
  | .agg parts => uptoBulkAll parts + 1
  | .iface _ d => uptoBulk d + 1
  | .map entries => uptoBulkEntries entries + 1
  | .held _ => 1
def uptoBulkAll {H : Type} : List (DataW H) → Nat
  | [] => 0
  | d :: r => uptoBulk d + uptoBulkAll r
def uptoBulkEntries {H : Type} : List (Lit × DataW H) → Nat
  | [] => 0
  | x :: r => uptoBulkEntry x + uptoBulkEntries r
def uptoBulkEntry {H : Type} : Lit × DataW H → Nat
  | (.string bytes, d) => bytes.length + uptoBulk d + 1
  | (_, d) => uptoBulk d + 1
 end
def uptoSmall : (H : Type) → List (DataW H) → Bool := fun _ ds => decide (uptoBulkAll ds ≤ 1048576)
def OpenSpec.upto (s : _root_.Go.ChangeSpec) : _root_.Go.OpenSpec := { _root_.Go.OpenSpec.ofChange s with cond := some uptoSmall }

/-- 'laws.FnExactDecode', WHERE WHAT IT READS IS OF BULK AT MOST 1048576: true; the input reads as it did. -/
def fnExactDecodeUptoRow : OpenClaim := { program := "ytcokeankiedfcaadoor", sum := "966f4f6e0b27db80832d1500a805c097f48e4f1c7a02821f7503f9ad11ddb080", func := "loop.example/g00018/laws.FnExactDecode", spec := "fnExactDecode", named := ["unicode/utf8.first", "unicode/utf8.acceptRanges"], apart := false, laid := [("unicode/utf8.acceptRanges", laid_unicode_utf8_acceptRanges), ("unicode/utf8.first", laid_unicode_utf8_first)], narrowed := true }
def FnExactDecodeUptoSaid : Prop := fnExactDecodeUptoRow.holds Tryd.pinned (OpenSpec.upto fnExactDecodeSpec)

/-- 'laws.FnExactFoldText', WHERE WHAT IT READS IS OF BULK AT MOST 1048576: true; the input reads as it did. -/
def fnExactFoldTextUptoRow : OpenClaim := { program := "ytcokeankiedfcaadoor", sum := "966f4f6e0b27db80832d1500a805c097f48e4f1c7a02821f7503f9ad11ddb080", func := "loop.example/g00018/laws.FnExactFoldText", spec := "fnExactFoldText", named := ["unicode/utf8.first", "unicode/utf8.acceptRanges"], apart := false, laid := [("unicode/utf8.acceptRanges", laid_unicode_utf8_acceptRanges), ("unicode/utf8.first", laid_unicode_utf8_first)], narrowed := true }
def FnExactFoldTextUptoSaid : Prop := fnExactFoldTextUptoRow.holds Tryd.pinned (OpenSpec.upto fnExactFoldTextSpec)

/-- 'laws.FnExactEdits', WHERE WHAT IT READS IS OF BULK AT MOST 1048576: true; the input reads as it did. -/
def fnExactEditsUptoRow : OpenClaim := { program := "ytcokeankiedfcaadoor", sum := "966f4f6e0b27db80832d1500a805c097f48e4f1c7a02821f7503f9ad11ddb080", func := "loop.example/g00018/laws.FnExactEdits", spec := "fnExactEdits", named := ["unicode/utf8.first", "unicode/utf8.acceptRanges"], apart := false, laid := [("unicode/utf8.acceptRanges", laid_unicode_utf8_acceptRanges), ("unicode/utf8.first", laid_unicode_utf8_first)], narrowed := true }
def FnExactEditsUptoSaid : Prop := fnExactEditsUptoRow.holds Tryd.pinned (OpenSpec.upto fnExactEditsSpec)

/-- 'laws.FnDistance', WHERE WHAT IT READS IS OF BULK AT MOST 1048576: true; the input reads as it did. -/
def fnDistanceUptoRow : OpenClaim := { program := "ytcokeankiedfcaadoor", sum := "966f4f6e0b27db80832d1500a805c097f48e4f1c7a02821f7503f9ad11ddb080", func := "loop.example/g00018/laws.FnDistance", spec := "fnDistance", named := ["unicode/utf8.first", "unicode/utf8.acceptRanges"], apart := false, laid := [("unicode/utf8.acceptRanges", laid_unicode_utf8_acceptRanges), ("unicode/utf8.first", laid_unicode_utf8_first)], narrowed := true }
def FnDistanceUptoSaid : Prop := fnDistanceUptoRow.holds Tryd.pinned (OpenSpec.upto fnDistanceSpec)

/-- 'laws.FnExactLikeText', WHERE WHAT IT READS IS OF BULK AT MOST 1048576: true; the input reads as it did. -/
def fnExactLikeTextUptoRow : OpenClaim := { program := "ytcokeankiedfcaadoor", sum := "966f4f6e0b27db80832d1500a805c097f48e4f1c7a02821f7503f9ad11ddb080", func := "loop.example/g00018/laws.FnExactLikeText", spec := "fnExactLikeText", named := ["unicode/utf8.first", "unicode/utf8.acceptRanges"], apart := false, laid := [("unicode/utf8.acceptRanges", laid_unicode_utf8_acceptRanges), ("unicode/utf8.first", laid_unicode_utf8_first)], narrowed := true }
def FnExactLikeTextUptoSaid : Prop := fnExactLikeTextUptoRow.holds Tryd.pinned (OpenSpec.upto fnExactLikeTextSpec)

/-- 'laws.FnExactGrams', WHERE WHAT IT READS IS OF BULK AT MOST 1048576: true; the input reads as it did. -/
def fnExactGramsUptoRow : OpenClaim := { program := "ytcokeankiedfcaadoor", sum := "966f4f6e0b27db80832d1500a805c097f48e4f1c7a02821f7503f9ad11ddb080", func := "loop.example/g00018/laws.FnExactGrams", spec := "fnExactGrams", named := ["unicode/utf8.first", "unicode/utf8.acceptRanges"], apart := false, laid := [("unicode/utf8.acceptRanges", laid_unicode_utf8_acceptRanges), ("unicode/utf8.first", laid_unicode_utf8_first)], narrowed := true }
def FnExactGramsUptoSaid : Prop := fnExactGramsUptoRow.holds Tryd.pinned (OpenSpec.upto fnExactGramsSpec)

/-- 'laws.FnExactBreak', WHERE WHAT IT READS IS OF BULK AT MOST 1048576: true; the input reads as it did. -/
def fnExactBreakUptoRow : OpenClaim := { program := "ytcokeankiedfcaadoor", sum := "966f4f6e0b27db80832d1500a805c097f48e4f1c7a02821f7503f9ad11ddb080", func := "loop.example/g00018/laws.FnExactBreak", spec := "fnExactBreak", unfollowed := true, recurses := true, named := ["unicode/utf8.first", "unicode/utf8.acceptRanges"], apart := false, laid := [("unicode/utf8.acceptRanges", laid_unicode_utf8_acceptRanges), ("unicode/utf8.first", laid_unicode_utf8_first)], narrowed := true }
def FnExactBreakUptoSaid : Prop := fnExactBreakUptoRow.holds Tryd.pinned (OpenSpec.upto fnExactBreakSpec)

/-- 'laws.FnText', WHERE WHAT IT READS IS OF BULK AT MOST 1048576: true; the input reads as it did. -/
def fnTextUptoRow : OpenClaim := { program := "ytcokeankiedfcaadoor", sum := "966f4f6e0b27db80832d1500a805c097f48e4f1c7a02821f7503f9ad11ddb080", func := "loop.example/g00018/laws.FnText", spec := "fnText", unfollowed := true, recurses := true, named := ["unicode/utf8.first", "unicode/utf8.acceptRanges"], apart := false, laid := [("unicode/utf8.acceptRanges", laid_unicode_utf8_acceptRanges), ("unicode/utf8.first", laid_unicode_utf8_first)], narrowed := true }
def FnTextUptoSaid : Prop := fnTextUptoRow.holds Tryd.pinned (OpenSpec.upto fnTextSpec)

/-- 'laws.FnExactAccepts', WHERE WHAT IT READS IS OF BULK AT MOST 1048576: true; the input reads as it did. -/
def fnExactAcceptsUptoRow : OpenClaim := { program := "ytcokeankiedfcaadoor", sum := "966f4f6e0b27db80832d1500a805c097f48e4f1c7a02821f7503f9ad11ddb080", func := "loop.example/g00018/laws.FnExactAccepts", spec := "fnExactAccepts", named := ["unicode/utf8.first", "unicode/utf8.acceptRanges"], apart := false, laid := [("unicode/utf8.acceptRanges", laid_unicode_utf8_acceptRanges), ("unicode/utf8.first", laid_unicode_utf8_first)], narrowed := true }
def FnExactAcceptsUptoSaid : Prop := fnExactAcceptsUptoRow.holds Tryd.pinned (OpenSpec.upto fnExactAcceptsSpec)

/-- 'laws.FnExactFragments', WHERE WHAT IT READS IS OF BULK AT MOST 1048576: true; the input reads as it did. -/
def fnExactFragmentsUptoRow : OpenClaim := { program := "ytcokeankiedfcaadoor", sum := "966f4f6e0b27db80832d1500a805c097f48e4f1c7a02821f7503f9ad11ddb080", func := "loop.example/g00018/laws.FnExactFragments", spec := "fnExactFragments", inPlace := ["internal/abi.NoEscape"], unfollowed := true, recurses := true, named := ["unicode/utf8.first", "unicode/utf8.acceptRanges"], apart := false, laid := [("unicode/utf8.acceptRanges", laid_unicode_utf8_acceptRanges), ("unicode/utf8.first", laid_unicode_utf8_first)], narrowed := true }
def FnExactFragmentsUptoSaid : Prop := fnExactFragmentsUptoRow.holds Tryd.pinned (OpenSpec.upto fnExactFragmentsSpec)

/-- 'laws.FnExactSuggest', WHERE WHAT IT READS IS OF BULK AT MOST 1048576: true; the input reads as it did. -/
def fnExactSuggestUptoRow : OpenClaim := { program := "ytcokeankiedfcaadoor", sum := "966f4f6e0b27db80832d1500a805c097f48e4f1c7a02821f7503f9ad11ddb080", func := "loop.example/g00018/laws.FnExactSuggest", spec := "fnExactSuggest", inPlace := ["internal/bytealg.abigen_runtime_cmpstring"], unfollowed := true, recurses := true, named := ["unicode/utf8.first", "unicode/utf8.acceptRanges"], apart := false, laid := [("unicode/utf8.acceptRanges", laid_unicode_utf8_acceptRanges), ("unicode/utf8.first", laid_unicode_utf8_first)], narrowed := true }
def FnExactSuggestUptoSaid : Prop := fnExactSuggestUptoRow.holds Tryd.pinned (OpenSpec.upto fnExactSuggestSpec)

/-- 'laws.FnSuggest', WHERE WHAT IT READS IS OF BULK AT MOST 1048576: true; the input reads as it did. -/
def fnSuggestUptoRow : OpenClaim := { program := "ytcokeankiedfcaadoor", sum := "966f4f6e0b27db80832d1500a805c097f48e4f1c7a02821f7503f9ad11ddb080", func := "loop.example/g00018/laws.FnSuggest", spec := "fnSuggest", inPlace := ["internal/bytealg.abigen_runtime_cmpstring"], unfollowed := true, recurses := true, named := ["unicode/utf8.first", "unicode/utf8.acceptRanges"], apart := false, laid := [("unicode/utf8.acceptRanges", laid_unicode_utf8_acceptRanges), ("unicode/utf8.first", laid_unicode_utf8_first)], narrowed := true }
def FnSuggestUptoSaid : Prop := fnSuggestUptoRow.holds Tryd.pinned (OpenSpec.upto fnSuggestSpec)

end Rows
end Go.Proofs.YtcokeankiedfcaaDoor
