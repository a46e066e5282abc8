/-
  No cell of these rows narrows 'for every input' (looked for: loops, veiled, ifaces, maps, wideKeys, modest, calm, conditions, laid).
  DERIVED. THE GIVEN ROWS OF THIS SEAT. 5 by the template 'for every input the law returns true; each argument reads behind the call as it read before'; 0 by the template 'total and deterministic' (their statements: YtnpdmleglcbobaaTotals.lean).
  GIVEN WITH THE SEED: the statements are not yours to turn. If you find one false, say at which input.
  Laid BY PROGRAM, IN A SANDBOX (cutbox-rows.mjs): the forced cells as the released guide's own fill.sh prints them over the translation 4824b631da601825… (all of the seat's roots in one cut). By AI agents, Wed Nov 11 2026. No macro, syntax, notation, axiom, sorry.
-/
import Derived.Test.YtnpdmleglcbobaaChecked
import GoSem.Claim
import GoSem.ClaimJoined
import GoSem.ClaimMapViews
import Derived.JoinedTies
import Derived.KernelRfl
namespace Go.Proofs.Ytnpdmleglcbobaa
/- THE CELL 'sum', in the pinned program and in every row, IS THE sha256 OF THE DUMP (.gsa) THAT YtnpdmleglcbobaaProg.lean LOADS. Nothing in Lean hashes anything: it is a label: what it is worth is what the hold of that sum in a sandbox is worth. -/
noncomputable def Try.pinned : Pinned := { name := "ytnpdmleglcbobaa", sum := "4824b631da6018259099ec68ab0af5deb9e67a47f2cacb9521ecc096f2490938", checked := Try.checked }
namespace Rows
def none {H : Type} : Left H := { results := [], args := [] }

/-- 'laws.FnExactDocBytes': WHATEVER THE INPUT: true; the input reads as it did. -/
def fnExactDocBytesSpec : ChangeSpec := { name := "fnExactDocBytes", fn := fun _ => fun
  | [d] => { results := [.lit (.bool true)], args := [d] }
  | _ => none }
def fnExactDocBytesRow : OpenClaim := { program := "ytnpdmleglcbobaa", sum := "4824b631da6018259099ec68ab0af5deb9e67a47f2cacb9521ecc096f2490938", func := "loop.example/g00018/laws.FnExactDocBytes", spec := "fnExactDocBytes", recurses := true, apart := false }
def FnExactDocBytesSaid : Prop := fnExactDocBytesRow.holds Try.pinned (OpenSpec.ofChange fnExactDocBytesSpec)

/-- ITS FALSE NEIGHBOUR: 'it returns false'. Refute it at one input. -/
def fnExactDocBytesWrong : ChangeSpec := { name := "fnExactDocBytes", fn := fun _ => fun
  | [d] => { results := [.lit (.bool false)], args := [d] }
  | _ => none }
def FnExactDocBytesWrongFalsely : Prop := fnExactDocBytesRow.holds Try.pinned (OpenSpec.ofChange fnExactDocBytesWrong)

/-- 'laws.FnExactReadDoc': WHATEVER THE INPUT: true; the input reads as it did. -/
def fnExactReadDocSpec : ChangeSpec := { name := "fnExactReadDoc", fn := fun _ => fun
  | [d] => { results := [.lit (.bool true)], args := [d] }
  | _ => none }
def fnExactReadDocRow : OpenClaim := { program := "ytnpdmleglcbobaa", sum := "4824b631da6018259099ec68ab0af5deb9e67a47f2cacb9521ecc096f2490938", func := "loop.example/g00018/laws.FnExactReadDoc", spec := "fnExactReadDoc", apart := false }
def FnExactReadDocSaid : Prop := fnExactReadDocRow.holds Try.pinned (OpenSpec.ofChange fnExactReadDocSpec)

/-- ITS FALSE NEIGHBOUR: 'it returns false'. Refute it at one input. -/
def fnExactReadDocWrong : ChangeSpec := { name := "fnExactReadDoc", fn := fun _ => fun
  | [d] => { results := [.lit (.bool false)], args := [d] }
  | _ => none }
def FnExactReadDocWrongFalsely : Prop := fnExactReadDocRow.holds Try.pinned (OpenSpec.ofChange fnExactReadDocWrong)

/-- 'laws.FnExactRecordBytes': WHATEVER THE INPUT: true; the input reads as it did. -/
def fnExactRecordBytesSpec : ChangeSpec := { name := "fnExactRecordBytes", fn := fun _ => fun
  | [d] => { results := [.lit (.bool true)], args := [d] }
  | _ => none }
def fnExactRecordBytesRow : OpenClaim := { program := "ytnpdmleglcbobaa", sum := "4824b631da6018259099ec68ab0af5deb9e67a47f2cacb9521ecc096f2490938", func := "loop.example/g00018/laws.FnExactRecordBytes", spec := "fnExactRecordBytes", recurses := true, apart := false }
def FnExactRecordBytesSaid : Prop := fnExactRecordBytesRow.holds Try.pinned (OpenSpec.ofChange fnExactRecordBytesSpec)

/-- ITS FALSE NEIGHBOUR: 'it returns false'. Refute it at one input. -/
def fnExactRecordBytesWrong : ChangeSpec := { name := "fnExactRecordBytes", fn := fun _ => fun
  | [d] => { results := [.lit (.bool false)], args := [d] }
  | _ => none }
def FnExactRecordBytesWrongFalsely : Prop := fnExactRecordBytesRow.holds Try.pinned (OpenSpec.ofChange fnExactRecordBytesWrong)

/-- 'laws.FnLog': WHATEVER THE INPUT: true; the input reads as it did. -/
def fnLogSpec : ChangeSpec := { name := "fnLog", fn := fun _ => fun
  | [d1, d2] => { results := [.lit (.bool true)], args := [d1, d2] }
  | _ => none }
def fnLogRow : OpenClaim := { program := "ytnpdmleglcbobaa", sum := "4824b631da6018259099ec68ab0af5deb9e67a47f2cacb9521ecc096f2490938", func := "loop.example/g00018/laws.FnLog", spec := "fnLog", recurses := true, apart := false }
def FnLogSaid : Prop := fnLogRow.holds Try.pinned (OpenSpec.ofChange fnLogSpec)

/-- ITS FALSE NEIGHBOUR: 'it returns false'. Refute it at one input. -/
def fnLogWrong : ChangeSpec := { name := "fnLog", fn := fun _ => fun
  | [d1, d2] => { results := [.lit (.bool false)], args := [d1, d2] }
  | _ => none }
def FnLogWrongFalsely : Prop := fnLogRow.holds Try.pinned (OpenSpec.ofChange fnLogWrong)

/-- 'laws.FnExactReadLog': WHATEVER THE INPUT: true; the input reads as it did. -/
def fnExactReadLogSpec : ChangeSpec := { name := "fnExactReadLog", fn := fun _ => fun
  | [d] => { results := [.lit (.bool true)], args := [d] }
  | _ => none }
def fnExactReadLogRow : OpenClaim := { program := "ytnpdmleglcbobaa", sum := "4824b631da6018259099ec68ab0af5deb9e67a47f2cacb9521ecc096f2490938", func := "loop.example/g00018/laws.FnExactReadLog", spec := "fnExactReadLog", recurses := true, apart := false }
def FnExactReadLogSaid : Prop := fnExactReadLogRow.holds Try.pinned (OpenSpec.ofChange fnExactReadLogSpec)

/-- ITS FALSE NEIGHBOUR: 'it returns false'. Refute it at one input. -/
def fnExactReadLogWrong : ChangeSpec := { name := "fnExactReadLog", fn := fun _ => fun
  | [d] => { results := [.lit (.bool false)], args := [d] }
  | _ => none }
def FnExactReadLogWrongFalsely : Prop := fnExactReadLogRow.holds Try.pinned (OpenSpec.ofChange fnExactReadLogWrong)

/- THE SECOND FORM. 'bulk': how many values and letters a reading holds, each counted each time it is reached (what is shared counts as often as it is met; a slice's spare places count too). A statement '..UptoSaid' is the law's where the arguments, and the package variables that the reading takes, are together of bulk at most 1048576: NARROWER than '..Said'. Prove '..Said' where nothing that the law and all that it calls make is longer than what came in: it says more and counts as full. Else prove '..UptoSaid'. A law counts once. -/
mutual
def uptoBulk {H : Type} : DataW H → Nat
  | .lit (.string bytes) => bytes.length + 1
  | .lit _ => 1
  | .nil => 1
  | .ptr d => uptoBulk d + 1
  | .slice elems spare => uptoBulkAll elems + uptoBulkAll spare + 1
  | .agg parts => uptoBulkAll parts + 1
  | .iface _ d => uptoBulk d + 1
  | .map entries => uptoBulkEntries entries + 1
  | .held _ => 1
def uptoBulkAll {H : Type} : List (DataW H) → Nat
  | [] => 0
  | d :: r => uptoBulk d + uptoBulkAll r
def uptoBulkEntries {H : Type} : List (Lit × DataW H) → Nat
  | [] => 0
  | x :: r => uptoBulkEntry x + uptoBulkEntries r
def uptoBulkEntry {H : Type} : Lit × DataW H → Nat
  | (.string bytes, d) => bytes.length + uptoBulk d + 1
  | (_, d) => uptoBulk d + 1
 end
def uptoSmall : (H : Type) → List (DataW H) → Bool := fun _ ds => decide (uptoBulkAll ds ≤ 1048576)
def OpenSpec.upto (s : _root_.Go.ChangeSpec) : _root_.Go.OpenSpec := { _root_.Go.OpenSpec.ofChange s with cond := some uptoSmall }

/-- 'laws.FnExactDocBytes', WHERE WHAT IT READS IS OF BULK AT MOST 1048576: true; the input reads as it did. -/
def fnExactDocBytesUptoRow : OpenClaim := { program := "ytnpdmleglcbobaa", sum := "4824b631da6018259099ec68ab0af5deb9e67a47f2cacb9521ecc096f2490938", func := "loop.example/g00018/laws.FnExactDocBytes", spec := "fnExactDocBytes", recurses := true, apart := false, narrowed := true }
def FnExactDocBytesUptoSaid : Prop := fnExactDocBytesUptoRow.holds Try.pinned (OpenSpec.upto fnExactDocBytesSpec)

/-- 'laws.FnExactReadDoc', WHERE WHAT IT READS IS OF BULK AT MOST 1048576: true; the input reads as it did. -/
def fnExactReadDocUptoRow : OpenClaim := { program := "ytnpdmleglcbobaa", sum := "4824b631da6018259099ec68ab0af5deb9e67a47f2cacb9521ecc096f2490938", func := "loop.example/g00018/laws.FnExactReadDoc", spec := "fnExactReadDoc", apart := false, narrowed := true }
def FnExactReadDocUptoSaid : Prop := fnExactReadDocUptoRow.holds Try.pinned (OpenSpec.upto fnExactReadDocSpec)

/-- 'laws.FnExactRecordBytes', WHERE WHAT IT READS IS OF BULK AT MOST 1048576: true; the input reads as it did. -/
def fnExactRecordBytesUptoRow : OpenClaim := { program := "ytnpdmleglcbobaa", sum := "4824b631da6018259099ec68ab0af5deb9e67a47f2cacb9521ecc096f2490938", func := "loop.example/g00018/laws.FnExactRecordBytes", spec := "fnExactRecordBytes", recurses := true, apart := false, narrowed := true }
def FnExactRecordBytesUptoSaid : Prop := fnExactRecordBytesUptoRow.holds Try.pinned (OpenSpec.upto fnExactRecordBytesSpec)

/-- 'laws.FnLog', WHERE WHAT IT READS IS OF BULK AT MOST 1048576: true; the input reads as it did. -/
def fnLogUptoRow : OpenClaim := { program := "ytnpdmleglcbobaa", sum := "4824b631da6018259099ec68ab0af5deb9e67a47f2cacb9521ecc096f2490938", func := "loop.example/g00018/laws.FnLog", spec := "fnLog", recurses := true, apart := false, narrowed := true }
def FnLogUptoSaid : Prop := fnLogUptoRow.holds Try.pinned (OpenSpec.upto fnLogSpec)

/-- 'laws.FnExactReadLog', WHERE WHAT IT READS IS OF BULK AT MOST 1048576: true; the input reads as it did. -/
def fnExactReadLogUptoRow : OpenClaim := { program := "ytnpdmleglcbobaa", sum := "4824b631da6018259099ec68ab0af5deb9e67a47f2cacb9521ecc096f2490938", func := "loop.example/g00018/laws.FnExactReadLog", spec := "fnExactReadLog", recurses := true, apart := false, narrowed := true }
def FnExactReadLogUptoSaid : Prop := fnExactReadLogUptoRow.holds Try.pinned (OpenSpec.upto fnExactReadLogSpec)

end Rows
end Go.Proofs.Ytnpdmleglcbobaa
