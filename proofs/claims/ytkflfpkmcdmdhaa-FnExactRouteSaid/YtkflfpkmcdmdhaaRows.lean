/-
  No cell of these rows narrows 'for every input' (looked for: loops, veiled, ifaces, maps, wideKeys, modest, calm, conditions, laid).
  DERIVED. THE GIVEN ROWS OF THIS SEAT. 12 by the template 'for every input the law returns true; each argument reads behind the call as it read before'; 0 by the template 'total and deterministic' (their statements: YtkflfpkmcdmdhaaTotals.lean).
  GIVEN WITH THE SEED: the statements are not yours to turn. If you find one false, say at which input.
  Laid BY PROGRAM, IN A SANDBOX (cutbox-rows.mjs): the forced cells as the released guide's own fill.sh prints them over the translation 519f5cb7083ee1fa… (all of the seat's roots in one cut). By AI agents, Wed Nov 11 2026. No macro, syntax, notation, axiom, sorry.
-/
import Derived.Test.YtkflfpkmcdmdhaaChecked
import GoSem.Claim
import GoSem.ClaimJoined
import GoSem.ClaimMapViews
import Derived.JoinedTies
import Derived.KernelRfl
namespace Go.Proofs.Ytkflfpkmcdmdhaa
/- THE CELL 'sum', in the pinned program and in every row, IS THE sha256 OF THE DUMP (.gsa) THAT YtkflfpkmcdmdhaaProg.lean LOADS. Nothing in Lean hashes anything: it is a label: what it is worth is what the hold of that sum in a sandbox is worth. -/
noncomputable def Try.pinned : Pinned := { name := "ytkflfpkmcdmdhaa", sum := "519f5cb7083ee1fa184f675d235e8c361cff97dca47b9e34ad1c0135e84e1fbc", checked := Try.checked }
namespace Rows
def none {H : Type} : Left H := { results := [], args := [] }

/-- 'laws.FnExactConstants': WHATEVER THE INPUT: true; the input reads as it did. -/
def fnExactConstantsSpec : ChangeSpec := { name := "fnExactConstants", fn := fun _ => fun
  | [] => { results := [.lit (.bool true)], args := [] }
  | _ => none }
def fnExactConstantsRow : OpenClaim := { program := "ytkflfpkmcdmdhaa", sum := "519f5cb7083ee1fa184f675d235e8c361cff97dca47b9e34ad1c0135e84e1fbc", func := "loop.example/g00018/laws.FnExactConstants", spec := "fnExactConstants", apart := false }
def FnExactConstantsSaid : Prop := fnExactConstantsRow.holds Try.pinned (OpenSpec.ofChange fnExactConstantsSpec)

/-- ITS FALSE NEIGHBOUR: 'it returns false'. Refute it at one input. -/
def fnExactConstantsWrong : ChangeSpec := { name := "fnExactConstants", fn := fun _ => fun
  | [] => { results := [.lit (.bool false)], args := [] }
  | _ => none }
def FnExactConstantsWrongFalsely : Prop := fnExactConstantsRow.holds Try.pinned (OpenSpec.ofChange fnExactConstantsWrong)

/-- 'laws.FnExactStrength': WHATEVER THE INPUT: true; the input reads as it did. -/
def fnExactStrengthSpec : ChangeSpec := { name := "fnExactStrength", fn := fun _ => fun
  | [d1, d2, d3, d4] => { results := [.lit (.bool true)], args := [d1, d2, d3, d4] }
  | _ => none }
def fnExactStrengthRow : OpenClaim := { program := "ytkflfpkmcdmdhaa", sum := "519f5cb7083ee1fa184f675d235e8c361cff97dca47b9e34ad1c0135e84e1fbc", func := "loop.example/g00018/laws.FnExactStrength", spec := "fnExactStrength", apart := false }
def FnExactStrengthSaid : Prop := fnExactStrengthRow.holds Try.pinned (OpenSpec.ofChange fnExactStrengthSpec)

/-- ITS FALSE NEIGHBOUR: 'it returns false'. Refute it at one input. -/
def fnExactStrengthWrong : ChangeSpec := { name := "fnExactStrength", fn := fun _ => fun
  | [d1, d2, d3, d4] => { results := [.lit (.bool false)], args := [d1, d2, d3, d4] }
  | _ => none }
def FnExactStrengthWrongFalsely : Prop := fnExactStrengthRow.holds Try.pinned (OpenSpec.ofChange fnExactStrengthWrong)

/-- 'laws.FnExactClass': WHATEVER THE INPUT: true; the input reads as it did. -/
def fnExactClassSpec : ChangeSpec := { name := "fnExactClass", fn := fun _ => fun
  | [d] => { results := [.lit (.bool true)], args := [d] }
  | _ => none }
def fnExactClassRow : OpenClaim := { program := "ytkflfpkmcdmdhaa", sum := "519f5cb7083ee1fa184f675d235e8c361cff97dca47b9e34ad1c0135e84e1fbc", func := "loop.example/g00018/laws.FnExactClass", spec := "fnExactClass", apart := false }
def FnExactClassSaid : Prop := fnExactClassRow.holds Try.pinned (OpenSpec.ofChange fnExactClassSpec)

/-- ITS FALSE NEIGHBOUR: 'it returns false'. Refute it at one input. -/
def fnExactClassWrong : ChangeSpec := { name := "fnExactClass", fn := fun _ => fun
  | [d] => { results := [.lit (.bool false)], args := [d] }
  | _ => none }
def FnExactClassWrongFalsely : Prop := fnExactClassRow.holds Try.pinned (OpenSpec.ofChange fnExactClassWrong)

/-- 'laws.FnExactRoute': WHATEVER THE INPUT: true; the input reads as it did. -/
def fnExactRouteSpec : ChangeSpec := { name := "fnExactRoute", fn := fun _ => fun
  | [d1, d2] => { results := [.lit (.bool true)], args := [d1, d2] }
  | _ => none }
def fnExactRouteRow : OpenClaim := { program := "ytkflfpkmcdmdhaa", sum := "519f5cb7083ee1fa184f675d235e8c361cff97dca47b9e34ad1c0135e84e1fbc", func := "loop.example/g00018/laws.FnExactRoute", spec := "fnExactRoute", apart := false }
def FnExactRouteSaid : Prop := fnExactRouteRow.holds Try.pinned (OpenSpec.ofChange fnExactRouteSpec)

/-- ITS FALSE NEIGHBOUR: 'it returns false'. Refute it at one input. -/
def fnExactRouteWrong : ChangeSpec := { name := "fnExactRoute", fn := fun _ => fun
  | [d1, d2] => { results := [.lit (.bool false)], args := [d1, d2] }
  | _ => none }
def FnExactRouteWrongFalsely : Prop := fnExactRouteRow.holds Try.pinned (OpenSpec.ofChange fnExactRouteWrong)

/-- 'laws.FnExactSum32': WHATEVER THE INPUT: true; the input reads as it did. -/
def fnExactSum32Spec : ChangeSpec := { name := "fnExactSum32", fn := fun _ => fun
  | [d] => { results := [.lit (.bool true)], args := [d] }
  | _ => none }
def fnExactSum32Row : OpenClaim := { program := "ytkflfpkmcdmdhaa", sum := "519f5cb7083ee1fa184f675d235e8c361cff97dca47b9e34ad1c0135e84e1fbc", func := "loop.example/g00018/laws.FnExactSum32", spec := "fnExactSum32", apart := false }
def FnExactSum32Said : Prop := fnExactSum32Row.holds Try.pinned (OpenSpec.ofChange fnExactSum32Spec)

/-- ITS FALSE NEIGHBOUR: 'it returns false'. Refute it at one input. -/
def fnExactSum32Wrong : ChangeSpec := { name := "fnExactSum32", fn := fun _ => fun
  | [d] => { results := [.lit (.bool false)], args := [d] }
  | _ => none }
def FnExactSum32WrongFalsely : Prop := fnExactSum32Row.holds Try.pinned (OpenSpec.ofChange fnExactSum32Wrong)

/-- 'laws.FnExactPutInt': WHATEVER THE INPUT: true; the input reads as it did. -/
def fnExactPutIntSpec : ChangeSpec := { name := "fnExactPutInt", fn := fun _ => fun
  | [d] => { results := [.lit (.bool true)], args := [d] }
  | _ => none }
def fnExactPutIntRow : OpenClaim := { program := "ytkflfpkmcdmdhaa", sum := "519f5cb7083ee1fa184f675d235e8c361cff97dca47b9e34ad1c0135e84e1fbc", func := "loop.example/g00018/laws.FnExactPutInt", spec := "fnExactPutInt", recurses := true, apart := false }
def FnExactPutIntSaid : Prop := fnExactPutIntRow.holds Try.pinned (OpenSpec.ofChange fnExactPutIntSpec)

/-- ITS FALSE NEIGHBOUR: 'it returns false'. Refute it at one input. -/
def fnExactPutIntWrong : ChangeSpec := { name := "fnExactPutInt", fn := fun _ => fun
  | [d] => { results := [.lit (.bool false)], args := [d] }
  | _ => none }
def FnExactPutIntWrongFalsely : Prop := fnExactPutIntRow.holds Try.pinned (OpenSpec.ofChange fnExactPutIntWrong)

/-- 'laws.FnExactFold': WHATEVER THE INPUT: true; the input reads as it did. -/
def fnExactFoldSpec : ChangeSpec := { name := "fnExactFold", fn := fun _ => fun
  | [d] => { results := [.lit (.bool true)], args := [d] }
  | _ => none }
def fnExactFoldRow : OpenClaim := { program := "ytkflfpkmcdmdhaa", sum := "519f5cb7083ee1fa184f675d235e8c361cff97dca47b9e34ad1c0135e84e1fbc", func := "loop.example/g00018/laws.FnExactFold", spec := "fnExactFold", apart := false }
def FnExactFoldSaid : Prop := fnExactFoldRow.holds Try.pinned (OpenSpec.ofChange fnExactFoldSpec)

/-- ITS FALSE NEIGHBOUR: 'it returns false'. Refute it at one input. -/
def fnExactFoldWrong : ChangeSpec := { name := "fnExactFold", fn := fun _ => fun
  | [d] => { results := [.lit (.bool false)], args := [d] }
  | _ => none }
def FnExactFoldWrongFalsely : Prop := fnExactFoldRow.holds Try.pinned (OpenSpec.ofChange fnExactFoldWrong)

/-- 'laws.FnExactSketchOK': WHATEVER THE INPUT: true; the input reads as it did. -/
def fnExactSketchOKSpec : ChangeSpec := { name := "fnExactSketchOK", fn := fun _ => fun
  | [d] => { results := [.lit (.bool true)], args := [d] }
  | _ => none }
def fnExactSketchOKRow : OpenClaim := { program := "ytkflfpkmcdmdhaa", sum := "519f5cb7083ee1fa184f675d235e8c361cff97dca47b9e34ad1c0135e84e1fbc", func := "loop.example/g00018/laws.FnExactSketchOK", spec := "fnExactSketchOK", unfollowed := true, recurses := true, apart := false }
def FnExactSketchOKSaid : Prop := fnExactSketchOKRow.holds Try.pinned (OpenSpec.ofChange fnExactSketchOKSpec)

/-- ITS FALSE NEIGHBOUR: 'it returns false'. Refute it at one input. -/
def fnExactSketchOKWrong : ChangeSpec := { name := "fnExactSketchOK", fn := fun _ => fun
  | [d] => { results := [.lit (.bool false)], args := [d] }
  | _ => none }
def FnExactSketchOKWrongFalsely : Prop := fnExactSketchOKRow.holds Try.pinned (OpenSpec.ofChange fnExactSketchOKWrong)

/-- 'laws.FnExactGetInt': WHATEVER THE INPUT: true; the input reads as it did. -/
def fnExactGetIntSpec : ChangeSpec := { name := "fnExactGetInt", fn := fun _ => fun
  | [d1, d2] => { results := [.lit (.bool true)], args := [d1, d2] }
  | _ => none }
def fnExactGetIntRow : OpenClaim := { program := "ytkflfpkmcdmdhaa", sum := "519f5cb7083ee1fa184f675d235e8c361cff97dca47b9e34ad1c0135e84e1fbc", func := "loop.example/g00018/laws.FnExactGetInt", spec := "fnExactGetInt", apart := false }
def FnExactGetIntSaid : Prop := fnExactGetIntRow.holds Try.pinned (OpenSpec.ofChange fnExactGetIntSpec)

/-- ITS FALSE NEIGHBOUR: 'it returns false'. Refute it at one input. -/
def fnExactGetIntWrong : ChangeSpec := { name := "fnExactGetInt", fn := fun _ => fun
  | [d1, d2] => { results := [.lit (.bool false)], args := [d1, d2] }
  | _ => none }
def FnExactGetIntWrongFalsely : Prop := fnExactGetIntRow.holds Try.pinned (OpenSpec.ofChange fnExactGetIntWrong)

/-- 'laws.FnExactLog2': WHATEVER THE INPUT: true; the input reads as it did. -/
def fnExactLog2Spec : ChangeSpec := { name := "fnExactLog2", fn := fun _ => fun
  | [d] => { results := [.lit (.bool true)], args := [d] }
  | _ => none }
def fnExactLog2Row : OpenClaim := { program := "ytkflfpkmcdmdhaa", sum := "519f5cb7083ee1fa184f675d235e8c361cff97dca47b9e34ad1c0135e84e1fbc", func := "loop.example/g00018/laws.FnExactLog2", spec := "fnExactLog2", apart := false }
def FnExactLog2Said : Prop := fnExactLog2Row.holds Try.pinned (OpenSpec.ofChange fnExactLog2Spec)

/-- ITS FALSE NEIGHBOUR: 'it returns false'. Refute it at one input. -/
def fnExactLog2Wrong : ChangeSpec := { name := "fnExactLog2", fn := fun _ => fun
  | [d] => { results := [.lit (.bool false)], args := [d] }
  | _ => none }
def FnExactLog2WrongFalsely : Prop := fnExactLog2Row.holds Try.pinned (OpenSpec.ofChange fnExactLog2Wrong)

/-- 'laws.FnExactEncode': WHATEVER THE INPUT: true; the input reads as it did. -/
def fnExactEncodeSpec : ChangeSpec := { name := "fnExactEncode", fn := fun _ => fun
  | [d] => { results := [.lit (.bool true)], args := [d] }
  | _ => none }
def fnExactEncodeRow : OpenClaim := { program := "ytkflfpkmcdmdhaa", sum := "519f5cb7083ee1fa184f675d235e8c361cff97dca47b9e34ad1c0135e84e1fbc", func := "loop.example/g00018/laws.FnExactEncode", spec := "fnExactEncode", apart := false }
def FnExactEncodeSaid : Prop := fnExactEncodeRow.holds Try.pinned (OpenSpec.ofChange fnExactEncodeSpec)

/-- ITS FALSE NEIGHBOUR: 'it returns false'. Refute it at one input. -/
def fnExactEncodeWrong : ChangeSpec := { name := "fnExactEncode", fn := fun _ => fun
  | [d] => { results := [.lit (.bool false)], args := [d] }
  | _ => none }
def FnExactEncodeWrongFalsely : Prop := fnExactEncodeRow.holds Try.pinned (OpenSpec.ofChange fnExactEncodeWrong)

/-- 'laws.FnExactDigestOK': WHATEVER THE INPUT: true; the input reads as it did. -/
def fnExactDigestOKSpec : ChangeSpec := { name := "fnExactDigestOK", fn := fun _ => fun
  | [d] => { results := [.lit (.bool true)], args := [d] }
  | _ => none }
def fnExactDigestOKRow : OpenClaim := { program := "ytkflfpkmcdmdhaa", sum := "519f5cb7083ee1fa184f675d235e8c361cff97dca47b9e34ad1c0135e84e1fbc", func := "loop.example/g00018/laws.FnExactDigestOK", spec := "fnExactDigestOK", apart := false }
def FnExactDigestOKSaid : Prop := fnExactDigestOKRow.holds Try.pinned (OpenSpec.ofChange fnExactDigestOKSpec)

/-- ITS FALSE NEIGHBOUR: 'it returns false'. Refute it at one input. -/
def fnExactDigestOKWrong : ChangeSpec := { name := "fnExactDigestOK", fn := fun _ => fun
  | [d] => { results := [.lit (.bool false)], args := [d] }
  | _ => none }
def FnExactDigestOKWrongFalsely : Prop := fnExactDigestOKRow.holds Try.pinned (OpenSpec.ofChange fnExactDigestOKWrong)

/- THE SECOND FORM. 'bulk': how many values and letters a reading holds, each counted each time it is reached (what is shared counts as often as it is met; a slice's spare places count too). A statement '..UptoSaid' is the law's where the arguments, and the package variables that the reading takes, are together of bulk at most 1048576: NARROWER than '..Said'. Prove '..Said' where nothing that the law and all that it calls make is longer than what came in: it says more and counts as full. Else prove '..UptoSaid'. A law counts once. -/
mutual
def uptoBulk {H : Type} : DataW H → Nat
  | .lit (.string bytes) => bytes.length + 1
  | .lit _ => 1
  | .nil => 1
  | .ptr d => uptoBulk d + 1
  | .slice elems spare => uptoBulkAll elems + uptoBulkAll spare + 1
  | .agg parts => uptoBulkAll parts + 1
  | .iface _ d => uptoBulk d + 1
  | .map entries => uptoBulkEntries entries + 1
  | .held _ => 1
def uptoBulkAll {H : Type} : List (DataW H) → Nat
  | [] => 0
  | d :: r => uptoBulk d + uptoBulkAll r
def uptoBulkEntries {H : Type} : List (Lit × DataW H) → Nat
  | [] => 0
  | x :: r => uptoBulkEntry x + uptoBulkEntries r
def uptoBulkEntry {H : Type} : Lit × DataW H → Nat
  | (.string bytes, d) => bytes.length + uptoBulk d + 1
  | (_, d) => uptoBulk d + 1
 end
def uptoSmall : (H : Type) → List (DataW H) → Bool := fun _ ds => decide (uptoBulkAll ds ≤ 1048576)
def OpenSpec.upto (s : _root_.Go.ChangeSpec) : _root_.Go.OpenSpec := { _root_.Go.OpenSpec.ofChange s with cond := some uptoSmall }

/-- 'laws.FnExactConstants', WHERE WHAT IT READS IS OF BULK AT MOST 1048576: true; the input reads as it did. -/
def fnExactConstantsUptoRow : OpenClaim := { program := "ytkflfpkmcdmdhaa", sum := "519f5cb7083ee1fa184f675d235e8c361cff97dca47b9e34ad1c0135e84e1fbc", func := "loop.example/g00018/laws.FnExactConstants", spec := "fnExactConstants", apart := false, narrowed := true }
def FnExactConstantsUptoSaid : Prop := fnExactConstantsUptoRow.holds Try.pinned (OpenSpec.upto fnExactConstantsSpec)

/-- 'laws.FnExactStrength', WHERE WHAT IT READS IS OF BULK AT MOST 1048576: true; the input reads as it did. -/
def fnExactStrengthUptoRow : OpenClaim := { program := "ytkflfpkmcdmdhaa", sum := "519f5cb7083ee1fa184f675d235e8c361cff97dca47b9e34ad1c0135e84e1fbc", func := "loop.example/g00018/laws.FnExactStrength", spec := "fnExactStrength", apart := false, narrowed := true }
def FnExactStrengthUptoSaid : Prop := fnExactStrengthUptoRow.holds Try.pinned (OpenSpec.upto fnExactStrengthSpec)

/-- 'laws.FnExactClass', WHERE WHAT IT READS IS OF BULK AT MOST 1048576: true; the input reads as it did. -/
def fnExactClassUptoRow : OpenClaim := { program := "ytkflfpkmcdmdhaa", sum := "519f5cb7083ee1fa184f675d235e8c361cff97dca47b9e34ad1c0135e84e1fbc", func := "loop.example/g00018/laws.FnExactClass", spec := "fnExactClass", apart := false, narrowed := true }
def FnExactClassUptoSaid : Prop := fnExactClassUptoRow.holds Try.pinned (OpenSpec.upto fnExactClassSpec)

/-- 'laws.FnExactRoute', WHERE WHAT IT READS IS OF BULK AT MOST 1048576: true; the input reads as it did. -/
def fnExactRouteUptoRow : OpenClaim := { program := "ytkflfpkmcdmdhaa", sum := "519f5cb7083ee1fa184f675d235e8c361cff97dca47b9e34ad1c0135e84e1fbc", func := "loop.example/g00018/laws.FnExactRoute", spec := "fnExactRoute", apart := false, narrowed := true }
def FnExactRouteUptoSaid : Prop := fnExactRouteUptoRow.holds Try.pinned (OpenSpec.upto fnExactRouteSpec)

/-- 'laws.FnExactSum32', WHERE WHAT IT READS IS OF BULK AT MOST 1048576: true; the input reads as it did. -/
def fnExactSum32UptoRow : OpenClaim := { program := "ytkflfpkmcdmdhaa", sum := "519f5cb7083ee1fa184f675d235e8c361cff97dca47b9e34ad1c0135e84e1fbc", func := "loop.example/g00018/laws.FnExactSum32", spec := "fnExactSum32", apart := false, narrowed := true }
def FnExactSum32UptoSaid : Prop := fnExactSum32UptoRow.holds Try.pinned (OpenSpec.upto fnExactSum32Spec)

/-- 'laws.FnExactPutInt', WHERE WHAT IT READS IS OF BULK AT MOST 1048576: true; the input reads as it did. -/
def fnExactPutIntUptoRow : OpenClaim := { program := "ytkflfpkmcdmdhaa", sum := "519f5cb7083ee1fa184f675d235e8c361cff97dca47b9e34ad1c0135e84e1fbc", func := "loop.example/g00018/laws.FnExactPutInt", spec := "fnExactPutInt", recurses := true, apart := false, narrowed := true }
def FnExactPutIntUptoSaid : Prop := fnExactPutIntUptoRow.holds Try.pinned (OpenSpec.upto fnExactPutIntSpec)

/-- 'laws.FnExactFold', WHERE WHAT IT READS IS OF BULK AT MOST 1048576: true; the input reads as it did. -/
def fnExactFoldUptoRow : OpenClaim := { program := "ytkflfpkmcdmdhaa", sum := "519f5cb7083ee1fa184f675d235e8c361cff97dca47b9e34ad1c0135e84e1fbc", func := "loop.example/g00018/laws.FnExactFold", spec := "fnExactFold", apart := false, narrowed := true }
def FnExactFoldUptoSaid : Prop := fnExactFoldUptoRow.holds Try.pinned (OpenSpec.upto fnExactFoldSpec)

/-- 'laws.FnExactSketchOK', WHERE WHAT IT READS IS OF BULK AT MOST 1048576: true; the input reads as it did. -/
def fnExactSketchOKUptoRow : OpenClaim := { program := "ytkflfpkmcdmdhaa", sum := "519f5cb7083ee1fa184f675d235e8c361cff97dca47b9e34ad1c0135e84e1fbc", func := "loop.example/g00018/laws.FnExactSketchOK", spec := "fnExactSketchOK", unfollowed := true, recurses := true, apart := false, narrowed := true }
def FnExactSketchOKUptoSaid : Prop := fnExactSketchOKUptoRow.holds Try.pinned (OpenSpec.upto fnExactSketchOKSpec)

/-- 'laws.FnExactGetInt', WHERE WHAT IT READS IS OF BULK AT MOST 1048576: true; the input reads as it did. -/
def fnExactGetIntUptoRow : OpenClaim := { program := "ytkflfpkmcdmdhaa", sum := "519f5cb7083ee1fa184f675d235e8c361cff97dca47b9e34ad1c0135e84e1fbc", func := "loop.example/g00018/laws.FnExactGetInt", spec := "fnExactGetInt", apart := false, narrowed := true }
def FnExactGetIntUptoSaid : Prop := fnExactGetIntUptoRow.holds Try.pinned (OpenSpec.upto fnExactGetIntSpec)

/-- 'laws.FnExactLog2', WHERE WHAT IT READS IS OF BULK AT MOST 1048576: true; the input reads as it did. -/
def fnExactLog2UptoRow : OpenClaim := { program := "ytkflfpkmcdmdhaa", sum := "519f5cb7083ee1fa184f675d235e8c361cff97dca47b9e34ad1c0135e84e1fbc", func := "loop.example/g00018/laws.FnExactLog2", spec := "fnExactLog2", apart := false, narrowed := true }
def FnExactLog2UptoSaid : Prop := fnExactLog2UptoRow.holds Try.pinned (OpenSpec.upto fnExactLog2Spec)

/-- 'laws.FnExactEncode', WHERE WHAT IT READS IS OF BULK AT MOST 1048576: true; the input reads as it did. -/
def fnExactEncodeUptoRow : OpenClaim := { program := "ytkflfpkmcdmdhaa", sum := "519f5cb7083ee1fa184f675d235e8c361cff97dca47b9e34ad1c0135e84e1fbc", func := "loop.example/g00018/laws.FnExactEncode", spec := "fnExactEncode", apart := false, narrowed := true }
def FnExactEncodeUptoSaid : Prop := fnExactEncodeUptoRow.holds Try.pinned (OpenSpec.upto fnExactEncodeSpec)

/-- 'laws.FnExactDigestOK', WHERE WHAT IT READS IS OF BULK AT MOST 1048576: true; the input reads as it did. -/
def fnExactDigestOKUptoRow : OpenClaim := { program := "ytkflfpkmcdmdhaa", sum := "519f5cb7083ee1fa184f675d235e8c361cff97dca47b9e34ad1c0135e84e1fbc", func := "loop.example/g00018/laws.FnExactDigestOK", spec := "fnExactDigestOK", apart := false, narrowed := true }
def FnExactDigestOKUptoSaid : Prop := fnExactDigestOKUptoRow.holds Try.pinned (OpenSpec.upto fnExactDigestOKSpec)

end Rows
end Go.Proofs.Ytkflfpkmcdmdhaa
