/-
  No cell of these rows narrows 'for every input' (looked for: loops, veiled, ifaces, maps, wideKeys, modest, calm, conditions, laid).
  DERIVED. THE GIVEN ROWS OF THIS SEAT. 6 by the template 'for every input the law returns true; each argument reads behind the call as it read before'; 0 by the template 'total and deterministic' (their statements: YtchoncnahlcfjaaTotals.lean).
  GIVEN WITH THE SEED: the statements are not yours to turn. If you find one false, say at which input.
  Laid BY PROGRAM, IN A SANDBOX (cutbox-rows.mjs): the forced cells as the released guide's own fill.sh prints them over the translation 96c32b98c654f42e… (all of the seat's roots in one cut). By AI agents, Wed Nov 11 2026. No macro, syntax, notation, axiom, sorry.
-/
import Derived.Test.YtchoncnahlcfjaaChecked
import GoSem.Claim
import GoSem.ClaimJoined
import GoSem.ClaimMapViews
import Derived.JoinedTies
import Derived.KernelRfl
namespace Go.Proofs.Ytchoncnahlcfjaa
/- THE CELL 'sum', in the pinned program and in every row, IS THE sha256 OF THE DUMP (.gsa) THAT YtchoncnahlcfjaaProg.lean LOADS. Nothing in Lean hashes anything: it is a label: what it is worth is what the hold of that sum in a sandbox is worth. -/
noncomputable def Try.pinned : Pinned := { name := "ytchoncnahlcfjaa", sum := "96c32b98c654f42efcbec1cdc482ecabc013768005c892979a5aaaac6016b5c4", checked := Try.checked }
namespace Rows
def none {H : Type} : Left H := { results := [], args := [] }

/-- 'laws.FnExactSketchJoin': WHATEVER THE INPUT: true; the input reads as it did. -/
def fnExactSketchJoinSpec : ChangeSpec := { name := "fnExactSketchJoin", fn := fun _ => fun
  | [d1, d2] => { results := [.lit (.bool true)], args := [d1, d2] }
  | _ => none }
def fnExactSketchJoinRow : OpenClaim := { program := "ytchoncnahlcfjaa", sum := "96c32b98c654f42efcbec1cdc482ecabc013768005c892979a5aaaac6016b5c4", func := "loop.example/g00018/laws.FnExactSketchJoin", spec := "fnExactSketchJoin", unfollowed := true, recurses := true, apart := false }
def FnExactSketchJoinSaid : Prop := fnExactSketchJoinRow.holds Try.pinned (OpenSpec.ofChange fnExactSketchJoinSpec)

/-- ITS FALSE NEIGHBOUR: 'it returns false'. Refute it at one input. -/
def fnExactSketchJoinWrong : ChangeSpec := { name := "fnExactSketchJoin", fn := fun _ => fun
  | [d1, d2] => { results := [.lit (.bool false)], args := [d1, d2] }
  | _ => none }
def FnExactSketchJoinWrongFalsely : Prop := fnExactSketchJoinRow.holds Try.pinned (OpenSpec.ofChange fnExactSketchJoinWrong)

/-- 'laws.FnExactSketchCount': WHATEVER THE INPUT: true; the input reads as it did. -/
def fnExactSketchCountSpec : ChangeSpec := { name := "fnExactSketchCount", fn := fun _ => fun
  | [d] => { results := [.lit (.bool true)], args := [d] }
  | _ => none }
def fnExactSketchCountRow : OpenClaim := { program := "ytchoncnahlcfjaa", sum := "96c32b98c654f42efcbec1cdc482ecabc013768005c892979a5aaaac6016b5c4", func := "loop.example/g00018/laws.FnExactSketchCount", spec := "fnExactSketchCount", unfollowed := true, recurses := true, apart := false }
def FnExactSketchCountSaid : Prop := fnExactSketchCountRow.holds Try.pinned (OpenSpec.ofChange fnExactSketchCountSpec)

/-- ITS FALSE NEIGHBOUR: 'it returns false'. Refute it at one input. -/
def fnExactSketchCountWrong : ChangeSpec := { name := "fnExactSketchCount", fn := fun _ => fun
  | [d] => { results := [.lit (.bool false)], args := [d] }
  | _ => none }
def FnExactSketchCountWrongFalsely : Prop := fnExactSketchCountRow.holds Try.pinned (OpenSpec.ofChange fnExactSketchCountWrong)

/-- 'laws.FnExactDigestOf': WHATEVER THE INPUT: true; the input reads as it did. -/
def fnExactDigestOfSpec : ChangeSpec := { name := "fnExactDigestOf", fn := fun _ => fun
  | [d1, d2] => { results := [.lit (.bool true)], args := [d1, d2] }
  | _ => none }
def fnExactDigestOfRow : OpenClaim := { program := "ytchoncnahlcfjaa", sum := "96c32b98c654f42efcbec1cdc482ecabc013768005c892979a5aaaac6016b5c4", func := "loop.example/g00018/laws.FnExactDigestOf", spec := "fnExactDigestOf", unfollowed := true, recurses := true, apart := false }
def FnExactDigestOfSaid : Prop := fnExactDigestOfRow.holds Try.pinned (OpenSpec.ofChange fnExactDigestOfSpec)

/-- ITS FALSE NEIGHBOUR: 'it returns false'. Refute it at one input. -/
def fnExactDigestOfWrong : ChangeSpec := { name := "fnExactDigestOf", fn := fun _ => fun
  | [d1, d2] => { results := [.lit (.bool false)], args := [d1, d2] }
  | _ => none }
def FnExactDigestOfWrongFalsely : Prop := fnExactDigestOfRow.holds Try.pinned (OpenSpec.ofChange fnExactDigestOfWrong)

/-- 'laws.FnExactDigestJoin': WHATEVER THE INPUT: true; the input reads as it did. -/
def fnExactDigestJoinSpec : ChangeSpec := { name := "fnExactDigestJoin", fn := fun _ => fun
  | [d1, d2] => { results := [.lit (.bool true)], args := [d1, d2] }
  | _ => none }
def fnExactDigestJoinRow : OpenClaim := { program := "ytchoncnahlcfjaa", sum := "96c32b98c654f42efcbec1cdc482ecabc013768005c892979a5aaaac6016b5c4", func := "loop.example/g00018/laws.FnExactDigestJoin", spec := "fnExactDigestJoin", recurses := true, apart := false }
def FnExactDigestJoinSaid : Prop := fnExactDigestJoinRow.holds Try.pinned (OpenSpec.ofChange fnExactDigestJoinSpec)

/-- ITS FALSE NEIGHBOUR: 'it returns false'. Refute it at one input. -/
def fnExactDigestJoinWrong : ChangeSpec := { name := "fnExactDigestJoin", fn := fun _ => fun
  | [d1, d2] => { results := [.lit (.bool false)], args := [d1, d2] }
  | _ => none }
def FnExactDigestJoinWrongFalsely : Prop := fnExactDigestJoinRow.holds Try.pinned (OpenSpec.ofChange fnExactDigestJoinWrong)

/-- 'laws.FnDigest': WHATEVER THE INPUT: true; the input reads as it did. -/
def fnDigestSpec : ChangeSpec := { name := "fnDigest", fn := fun _ => fun
  | [d1, d2] => { results := [.lit (.bool true)], args := [d1, d2] }
  | _ => none }
def fnDigestRow : OpenClaim := { program := "ytchoncnahlcfjaa", sum := "96c32b98c654f42efcbec1cdc482ecabc013768005c892979a5aaaac6016b5c4", func := "loop.example/g00018/laws.FnDigest", spec := "fnDigest", unfollowed := true, recurses := true, apart := false }
def FnDigestSaid : Prop := fnDigestRow.holds Try.pinned (OpenSpec.ofChange fnDigestSpec)

/-- ITS FALSE NEIGHBOUR: 'it returns false'. Refute it at one input. -/
def fnDigestWrong : ChangeSpec := { name := "fnDigest", fn := fun _ => fun
  | [d1, d2] => { results := [.lit (.bool false)], args := [d1, d2] }
  | _ => none }
def FnDigestWrongFalsely : Prop := fnDigestRow.holds Try.pinned (OpenSpec.ofChange fnDigestWrong)

/-- 'laws.FnExactMergeHits': WHATEVER THE INPUT: true; the input reads as it did. -/
def fnExactMergeHitsSpec : ChangeSpec := { name := "fnExactMergeHits", fn := fun _ => fun
  | [d1, d2, d3] => { results := [.lit (.bool true)], args := [d1, d2, d3] }
  | _ => none }
def fnExactMergeHitsRow : OpenClaim := { program := "ytchoncnahlcfjaa", sum := "96c32b98c654f42efcbec1cdc482ecabc013768005c892979a5aaaac6016b5c4", func := "loop.example/g00018/laws.FnExactMergeHits", spec := "fnExactMergeHits", unfollowed := true, recurses := true, apart := false }
def FnExactMergeHitsSaid : Prop := fnExactMergeHitsRow.holds Try.pinned (OpenSpec.ofChange fnExactMergeHitsSpec)

/-- ITS FALSE NEIGHBOUR: 'it returns false'. Refute it at one input. -/
def fnExactMergeHitsWrong : ChangeSpec := { name := "fnExactMergeHits", fn := fun _ => fun
  | [d1, d2, d3] => { results := [.lit (.bool false)], args := [d1, d2, d3] }
  | _ => none }
def FnExactMergeHitsWrongFalsely : Prop := fnExactMergeHitsRow.holds Try.pinned (OpenSpec.ofChange fnExactMergeHitsWrong)

/- THE SECOND FORM. 'bulk': how many values and letters a reading holds, each counted each time it is reached (what is shared counts as often as it is met; a slice's spare places count too). A statement '..UptoSaid' is the law's where the arguments, and the package variables that the reading takes, are together of bulk at most 1048576: NARROWER than '..Said'. Prove '..Said' where nothing that the law and all that it calls make is longer than what came in: it says more and counts as full. Else prove '..UptoSaid'. A law counts once. -/
mutual
def uptoBulk {H : Type} : DataW H → Nat
  | .lit (.string bytes) => bytes.length + 1
  | .lit _ => 1
  | .nil => 1
  | .ptr d => uptoBulk d + 1
  | .slice elems spare => uptoBulkAll elems + uptoBulkAll spare + 1
  | .agg parts => uptoBulkAll parts + 1
  | .iface _ d => uptoBulk d + 1
  | .map entries => uptoBulkEntries entries + 1
  | .held _ => 1
def uptoBulkAll {H : Type} : List (DataW H) → Nat
  | [] => 0
  | d :: r => uptoBulk d + uptoBulkAll r
def uptoBulkEntries {H : Type} : List (Lit × DataW H) → Nat
  | [] => 0
  | x :: r => uptoBulkEntry x + uptoBulkEntries r
def uptoBulkEntry {H : Type} : Lit × DataW H → Nat
  | (.string bytes, d) => bytes.length + uptoBulk d + 1
  | (_, d) => uptoBulk d + 1
 end
def uptoSmall : (H : Type) → List (DataW H) → Bool := fun _ ds => decide (uptoBulkAll ds ≤ 1048576)
def OpenSpec.upto (s : _root_.Go.ChangeSpec) : _root_.Go.OpenSpec := { _root_.Go.OpenSpec.ofChange s with cond := some uptoSmall }

/-- 'laws.FnExactSketchJoin', WHERE WHAT IT READS IS OF BULK AT MOST 1048576: true; the input reads as it did. -/
def fnExactSketchJoinUptoRow : OpenClaim := { program := "ytchoncnahlcfjaa", sum := "96c32b98c654f42efcbec1cdc482ecabc013768005c892979a5aaaac6016b5c4", func := "loop.example/g00018/laws.FnExactSketchJoin", spec := "fnExactSketchJoin", unfollowed := true, recurses := true, apart := false, narrowed := true }
def FnExactSketchJoinUptoSaid : Prop := fnExactSketchJoinUptoRow.holds Try.pinned (OpenSpec.upto fnExactSketchJoinSpec)

/-- 'laws.FnExactSketchCount', WHERE WHAT IT READS IS OF BULK AT MOST 1048576: true; the input reads as it did. -/
def fnExactSketchCountUptoRow : OpenClaim := { program := "ytchoncnahlcfjaa", sum := "96c32b98c654f42efcbec1cdc482ecabc013768005c892979a5aaaac6016b5c4", func := "loop.example/g00018/laws.FnExactSketchCount", spec := "fnExactSketchCount", unfollowed := true, recurses := true, apart := false, narrowed := true }
def FnExactSketchCountUptoSaid : Prop := fnExactSketchCountUptoRow.holds Try.pinned (OpenSpec.upto fnExactSketchCountSpec)

/-- 'laws.FnExactDigestOf', WHERE WHAT IT READS IS OF BULK AT MOST 1048576: true; the input reads as it did. -/
def fnExactDigestOfUptoRow : OpenClaim := { program := "ytchoncnahlcfjaa", sum := "96c32b98c654f42efcbec1cdc482ecabc013768005c892979a5aaaac6016b5c4", func := "loop.example/g00018/laws.FnExactDigestOf", spec := "fnExactDigestOf", unfollowed := true, recurses := true, apart := false, narrowed := true }
def FnExactDigestOfUptoSaid : Prop := fnExactDigestOfUptoRow.holds Try.pinned (OpenSpec.upto fnExactDigestOfSpec)

/-- 'laws.FnExactDigestJoin', WHERE WHAT IT READS IS OF BULK AT MOST 1048576: true; the input reads as it did. -/
def fnExactDigestJoinUptoRow : OpenClaim := { program := "ytchoncnahlcfjaa", sum := "96c32b98c654f42efcbec1cdc482ecabc013768005c892979a5aaaac6016b5c4", func := "loop.example/g00018/laws.FnExactDigestJoin", spec := "fnExactDigestJoin", recurses := true, apart := false, narrowed := true }
def FnExactDigestJoinUptoSaid : Prop := fnExactDigestJoinUptoRow.holds Try.pinned (OpenSpec.upto fnExactDigestJoinSpec)

/-- 'laws.FnDigest', WHERE WHAT IT READS IS OF BULK AT MOST 1048576: true; the input reads as it did. -/
def fnDigestUptoRow : OpenClaim := { program := "ytchoncnahlcfjaa", sum := "96c32b98c654f42efcbec1cdc482ecabc013768005c892979a5aaaac6016b5c4", func := "loop.example/g00018/laws.FnDigest", spec := "fnDigest", unfollowed := true, recurses := true, apart := false, narrowed := true }
def FnDigestUptoSaid : Prop := fnDigestUptoRow.holds Try.pinned (OpenSpec.upto fnDigestSpec)

/-- 'laws.FnExactMergeHits', WHERE WHAT IT READS IS OF BULK AT MOST 1048576: true; the input reads as it did. -/
def fnExactMergeHitsUptoRow : OpenClaim := { program := "ytchoncnahlcfjaa", sum := "96c32b98c654f42efcbec1cdc482ecabc013768005c892979a5aaaac6016b5c4", func := "loop.example/g00018/laws.FnExactMergeHits", spec := "fnExactMergeHits", unfollowed := true, recurses := true, apart := false, narrowed := true }
def FnExactMergeHitsUptoSaid : Prop := fnExactMergeHitsUptoRow.holds Try.pinned (OpenSpec.upto fnExactMergeHitsSpec)

end Rows
end Go.Proofs.Ytchoncnahlcfjaa
