/-
  No cell of these rows narrows 'for every input' (looked for: loops, veiled, ifaces, maps, wideKeys, modest, calm, conditions, laid).
  DERIVED. THE GIVEN ROWS OF THIS SEAT. 11 by the template 'for every input the law returns true; each argument reads behind the call as it read before'; 0 by the template 'total and deterministic' (their statements: YtfkejcakklpecaaTotals.lean).
  GIVEN WITH THE SEED: the statements are not yours to turn. If you find one false, say at which input.
  Laid BY PROGRAM, IN A SANDBOX (cutbox-rows.mjs): the forced cells as the released guide's own fill.sh prints them over the translation 464c4796d4e4d713… (all of the seat's roots in one cut). By AI agents, Wed Nov 11 2026. No macro, syntax, notation, axiom, sorry.
-/
import Derived.Test.YtfkejcakklpecaaChecked
import GoSem.Claim
import GoSem.ClaimJoined
import GoSem.ClaimMapViews
import Derived.JoinedTies
import Derived.KernelRfl
namespace Go.Proofs.Ytfkejcakklpecaa
/- THE CELL 'sum', in the pinned program and in every row, IS THE sha256 OF THE DUMP (.gsa) THAT YtfkejcakklpecaaProg.lean LOADS. Nothing in Lean hashes anything: it is a label: what it is worth is what the hold of that sum in a sandbox is worth. -/
noncomputable def Try.pinned : Pinned := { name := "ytfkejcakklpecaa", sum := "464c4796d4e4d71313d8eb6c09a89810f6e74ec739d8101568833ce89fa08323", checked := Try.checked }
namespace Rows
def none {H : Type} : Left H := { results := [], args := [] }

/-- 'laws.FnExactPackInts': WHATEVER THE INPUT: true; the input reads as it did. -/
def fnExactPackIntsSpec : ChangeSpec := { name := "fnExactPackInts", fn := fun _ => fun
  | [d] => { results := [.lit (.bool true)], args := [d] }
  | _ => none }
def fnExactPackIntsRow : OpenClaim := { program := "ytfkejcakklpecaa", sum := "464c4796d4e4d71313d8eb6c09a89810f6e74ec739d8101568833ce89fa08323", func := "loop.example/g00018/laws.FnExactPackInts", spec := "fnExactPackInts", recurses := true, apart := false }
def FnExactPackIntsSaid : Prop := fnExactPackIntsRow.holds Try.pinned (OpenSpec.ofChange fnExactPackIntsSpec)

/-- ITS FALSE NEIGHBOUR: 'it returns false'. Refute it at one input. -/
def fnExactPackIntsWrong : ChangeSpec := { name := "fnExactPackInts", fn := fun _ => fun
  | [d] => { results := [.lit (.bool false)], args := [d] }
  | _ => none }
def FnExactPackIntsWrongFalsely : Prop := fnExactPackIntsRow.holds Try.pinned (OpenSpec.ofChange fnExactPackIntsWrong)

/-- 'laws.FnExactPackRising': WHATEVER THE INPUT: true; the input reads as it did. -/
def fnExactPackRisingSpec : ChangeSpec := { name := "fnExactPackRising", fn := fun _ => fun
  | [d] => { results := [.lit (.bool true)], args := [d] }
  | _ => none }
def fnExactPackRisingRow : OpenClaim := { program := "ytfkejcakklpecaa", sum := "464c4796d4e4d71313d8eb6c09a89810f6e74ec739d8101568833ce89fa08323", func := "loop.example/g00018/laws.FnExactPackRising", spec := "fnExactPackRising", recurses := true, apart := false }
def FnExactPackRisingSaid : Prop := fnExactPackRisingRow.holds Try.pinned (OpenSpec.ofChange fnExactPackRisingSpec)

/-- ITS FALSE NEIGHBOUR: 'it returns false'. Refute it at one input. -/
def fnExactPackRisingWrong : ChangeSpec := { name := "fnExactPackRising", fn := fun _ => fun
  | [d] => { results := [.lit (.bool false)], args := [d] }
  | _ => none }
def FnExactPackRisingWrongFalsely : Prop := fnExactPackRisingRow.holds Try.pinned (OpenSpec.ofChange fnExactPackRisingWrong)

/-- 'laws.FnExactUnpackInts': WHATEVER THE INPUT: true; the input reads as it did. -/
def fnExactUnpackIntsSpec : ChangeSpec := { name := "fnExactUnpackInts", fn := fun _ => fun
  | [d] => { results := [.lit (.bool true)], args := [d] }
  | _ => none }
def fnExactUnpackIntsRow : OpenClaim := { program := "ytfkejcakklpecaa", sum := "464c4796d4e4d71313d8eb6c09a89810f6e74ec739d8101568833ce89fa08323", func := "loop.example/g00018/laws.FnExactUnpackInts", spec := "fnExactUnpackInts", recurses := true, apart := false }
def FnExactUnpackIntsSaid : Prop := fnExactUnpackIntsRow.holds Try.pinned (OpenSpec.ofChange fnExactUnpackIntsSpec)

/-- ITS FALSE NEIGHBOUR: 'it returns false'. Refute it at one input. -/
def fnExactUnpackIntsWrong : ChangeSpec := { name := "fnExactUnpackInts", fn := fun _ => fun
  | [d] => { results := [.lit (.bool false)], args := [d] }
  | _ => none }
def FnExactUnpackIntsWrongFalsely : Prop := fnExactUnpackIntsRow.holds Try.pinned (OpenSpec.ofChange fnExactUnpackIntsWrong)

/-- 'laws.FnExactUnpackRising': WHATEVER THE INPUT: true; the input reads as it did. -/
def fnExactUnpackRisingSpec : ChangeSpec := { name := "fnExactUnpackRising", fn := fun _ => fun
  | [d] => { results := [.lit (.bool true)], args := [d] }
  | _ => none }
def fnExactUnpackRisingRow : OpenClaim := { program := "ytfkejcakklpecaa", sum := "464c4796d4e4d71313d8eb6c09a89810f6e74ec739d8101568833ce89fa08323", func := "loop.example/g00018/laws.FnExactUnpackRising", spec := "fnExactUnpackRising", recurses := true, apart := false }
def FnExactUnpackRisingSaid : Prop := fnExactUnpackRisingRow.holds Try.pinned (OpenSpec.ofChange fnExactUnpackRisingSpec)

/-- ITS FALSE NEIGHBOUR: 'it returns false'. Refute it at one input. -/
def fnExactUnpackRisingWrong : ChangeSpec := { name := "fnExactUnpackRising", fn := fun _ => fun
  | [d] => { results := [.lit (.bool false)], args := [d] }
  | _ => none }
def FnExactUnpackRisingWrongFalsely : Prop := fnExactUnpackRisingRow.holds Try.pinned (OpenSpec.ofChange fnExactUnpackRisingWrong)

/-- 'laws.FnPacked': WHATEVER THE INPUT: true; the input reads as it did. -/
def fnPackedSpec : ChangeSpec := { name := "fnPacked", fn := fun _ => fun
  | [d] => { results := [.lit (.bool true)], args := [d] }
  | _ => none }
def fnPackedRow : OpenClaim := { program := "ytfkejcakklpecaa", sum := "464c4796d4e4d71313d8eb6c09a89810f6e74ec739d8101568833ce89fa08323", func := "loop.example/g00018/laws.FnPacked", spec := "fnPacked", recurses := true, apart := false }
def FnPackedSaid : Prop := fnPackedRow.holds Try.pinned (OpenSpec.ofChange fnPackedSpec)

/-- ITS FALSE NEIGHBOUR: 'it returns false'. Refute it at one input. -/
def fnPackedWrong : ChangeSpec := { name := "fnPacked", fn := fun _ => fun
  | [d] => { results := [.lit (.bool false)], args := [d] }
  | _ => none }
def FnPackedWrongFalsely : Prop := fnPackedRow.holds Try.pinned (OpenSpec.ofChange fnPackedWrong)

/-- 'laws.FnWeights': WHATEVER THE INPUT: true; the input reads as it did. -/
def fnWeightsSpec : ChangeSpec := { name := "fnWeights", fn := fun _ => fun
  | [d] => { results := [.lit (.bool true)], args := [d] }
  | _ => none }
def fnWeightsRow : OpenClaim := { program := "ytfkejcakklpecaa", sum := "464c4796d4e4d71313d8eb6c09a89810f6e74ec739d8101568833ce89fa08323", func := "loop.example/g00018/laws.FnWeights", spec := "fnWeights", apart := false }
def FnWeightsSaid : Prop := fnWeightsRow.holds Try.pinned (OpenSpec.ofChange fnWeightsSpec)

/-- ITS FALSE NEIGHBOUR: 'it returns false'. Refute it at one input. -/
def fnWeightsWrong : ChangeSpec := { name := "fnWeights", fn := fun _ => fun
  | [d] => { results := [.lit (.bool false)], args := [d] }
  | _ => none }
def FnWeightsWrongFalsely : Prop := fnWeightsRow.holds Try.pinned (OpenSpec.ofChange fnWeightsWrong)

/-- 'laws.FnRoute': WHATEVER THE INPUT: true; the input reads as it did. -/
def fnRouteSpec : ChangeSpec := { name := "fnRoute", fn := fun _ => fun
  | [d] => { results := [.lit (.bool true)], args := [d] }
  | _ => none }
def fnRouteRow : OpenClaim := { program := "ytfkejcakklpecaa", sum := "464c4796d4e4d71313d8eb6c09a89810f6e74ec739d8101568833ce89fa08323", func := "loop.example/g00018/laws.FnRoute", spec := "fnRoute", recurses := true, apart := false }
def FnRouteSaid : Prop := fnRouteRow.holds Try.pinned (OpenSpec.ofChange fnRouteSpec)

/-- ITS FALSE NEIGHBOUR: 'it returns false'. Refute it at one input. -/
def fnRouteWrong : ChangeSpec := { name := "fnRoute", fn := fun _ => fun
  | [d] => { results := [.lit (.bool false)], args := [d] }
  | _ => none }
def FnRouteWrongFalsely : Prop := fnRouteRow.holds Try.pinned (OpenSpec.ofChange fnRouteWrong)

/-- 'laws.FnExactDfaOK': WHATEVER THE INPUT: true; the input reads as it did. -/
def fnExactDfaOKSpec : ChangeSpec := { name := "fnExactDfaOK", fn := fun _ => fun
  | [d] => { results := [.lit (.bool true)], args := [d] }
  | _ => none }
def fnExactDfaOKRow : OpenClaim := { program := "ytfkejcakklpecaa", sum := "464c4796d4e4d71313d8eb6c09a89810f6e74ec739d8101568833ce89fa08323", func := "loop.example/g00018/laws.FnExactDfaOK", spec := "fnExactDfaOK", apart := false }
def FnExactDfaOKSaid : Prop := fnExactDfaOKRow.holds Try.pinned (OpenSpec.ofChange fnExactDfaOKSpec)

/-- ITS FALSE NEIGHBOUR: 'it returns false'. Refute it at one input. -/
def fnExactDfaOKWrong : ChangeSpec := { name := "fnExactDfaOK", fn := fun _ => fun
  | [d] => { results := [.lit (.bool false)], args := [d] }
  | _ => none }
def FnExactDfaOKWrongFalsely : Prop := fnExactDfaOKRow.holds Try.pinned (OpenSpec.ofChange fnExactDfaOKWrong)

/-- 'laws.FnExactWeight': WHATEVER THE INPUT: true; the input reads as it did. -/
def fnExactWeightSpec : ChangeSpec := { name := "fnExactWeight", fn := fun _ => fun
  | [d1, d2] => { results := [.lit (.bool true)], args := [d1, d2] }
  | _ => none }
def fnExactWeightRow : OpenClaim := { program := "ytfkejcakklpecaa", sum := "464c4796d4e4d71313d8eb6c09a89810f6e74ec739d8101568833ce89fa08323", func := "loop.example/g00018/laws.FnExactWeight", spec := "fnExactWeight", apart := false }
def FnExactWeightSaid : Prop := fnExactWeightRow.holds Try.pinned (OpenSpec.ofChange fnExactWeightSpec)

/-- ITS FALSE NEIGHBOUR: 'it returns false'. Refute it at one input. -/
def fnExactWeightWrong : ChangeSpec := { name := "fnExactWeight", fn := fun _ => fun
  | [d1, d2] => { results := [.lit (.bool false)], args := [d1, d2] }
  | _ => none }
def FnExactWeightWrongFalsely : Prop := fnExactWeightRow.holds Try.pinned (OpenSpec.ofChange fnExactWeightWrong)

/-- 'laws.FnExactDigestAt': WHATEVER THE INPUT: true; the input reads as it did. -/
def fnExactDigestAtSpec : ChangeSpec := { name := "fnExactDigestAt", fn := fun _ => fun
  | [d1, d2] => { results := [.lit (.bool true)], args := [d1, d2] }
  | _ => none }
def fnExactDigestAtRow : OpenClaim := { program := "ytfkejcakklpecaa", sum := "464c4796d4e4d71313d8eb6c09a89810f6e74ec739d8101568833ce89fa08323", func := "loop.example/g00018/laws.FnExactDigestAt", spec := "fnExactDigestAt", apart := false }
def FnExactDigestAtSaid : Prop := fnExactDigestAtRow.holds Try.pinned (OpenSpec.ofChange fnExactDigestAtSpec)

/-- ITS FALSE NEIGHBOUR: 'it returns false'. Refute it at one input. -/
def fnExactDigestAtWrong : ChangeSpec := { name := "fnExactDigestAt", fn := fun _ => fun
  | [d1, d2] => { results := [.lit (.bool false)], args := [d1, d2] }
  | _ => none }
def FnExactDigestAtWrongFalsely : Prop := fnExactDigestAtRow.holds Try.pinned (OpenSpec.ofChange fnExactDigestAtWrong)

/-- 'laws.FnExactDigestRank': WHATEVER THE INPUT: true; the input reads as it did. -/
def fnExactDigestRankSpec : ChangeSpec := { name := "fnExactDigestRank", fn := fun _ => fun
  | [d1, d2] => { results := [.lit (.bool true)], args := [d1, d2] }
  | _ => none }
def fnExactDigestRankRow : OpenClaim := { program := "ytfkejcakklpecaa", sum := "464c4796d4e4d71313d8eb6c09a89810f6e74ec739d8101568833ce89fa08323", func := "loop.example/g00018/laws.FnExactDigestRank", spec := "fnExactDigestRank", apart := false }
def FnExactDigestRankSaid : Prop := fnExactDigestRankRow.holds Try.pinned (OpenSpec.ofChange fnExactDigestRankSpec)

/-- ITS FALSE NEIGHBOUR: 'it returns false'. Refute it at one input. -/
def fnExactDigestRankWrong : ChangeSpec := { name := "fnExactDigestRank", fn := fun _ => fun
  | [d1, d2] => { results := [.lit (.bool false)], args := [d1, d2] }
  | _ => none }
def FnExactDigestRankWrongFalsely : Prop := fnExactDigestRankRow.holds Try.pinned (OpenSpec.ofChange fnExactDigestRankWrong)

/- THE SECOND FORM. 'bulk': how many values and letters a reading holds, each counted each time it is reached (what is shared counts as often as it is met; a slice's spare places count too). A statement '..UptoSaid' is the law's where the arguments, and the package variables that the reading takes, are together of bulk at most 1048576: NARROWER than '..Said'. Prove '..Said' where nothing that the law and all that it calls make is longer than what came in: it says more and counts as full. Else prove '..UptoSaid'. A law counts once. -/
mutual
def uptoBulk {H : Type} : DataW H → Nat
  | .lit (.string bytes) => bytes.length + 1
  | .lit _ => 1
  | .nil => 1
  | .ptr d => uptoBulk d + 1
  | .slice elems spare => uptoBulkAll elems + uptoBulkAll spare + 1
  | .agg parts => uptoBulkAll parts + 1
  | .iface _ d => uptoBulk d + 1
  | .map entries => uptoBulkEntries entries + 1
  | .held _ => 1
def uptoBulkAll {H : Type} : List (DataW H) → Nat
  | [] => 0
  | d :: r => uptoBulk d + uptoBulkAll r
def uptoBulkEntries {H : Type} : List (Lit × DataW H) → Nat
  | [] => 0
  | x :: r => uptoBulkEntry x + uptoBulkEntries r
def uptoBulkEntry {H : Type} : Lit × DataW H → Nat
  | (.string bytes, d) => bytes.length + uptoBulk d + 1
  | (_, d) => uptoBulk d + 1
 end
def uptoSmall : (H : Type) → List (DataW H) → Bool := fun _ ds => decide (uptoBulkAll ds ≤ 1048576)
def OpenSpec.upto (s : _root_.Go.ChangeSpec) : _root_.Go.OpenSpec := { _root_.Go.OpenSpec.ofChange s with cond := some uptoSmall }

/-- 'laws.FnExactPackInts', WHERE WHAT IT READS IS OF BULK AT MOST 1048576: true; the input reads as it did. -/
def fnExactPackIntsUptoRow : OpenClaim := { program := "ytfkejcakklpecaa", sum := "464c4796d4e4d71313d8eb6c09a89810f6e74ec739d8101568833ce89fa08323", func := "loop.example/g00018/laws.FnExactPackInts", spec := "fnExactPackInts", recurses := true, apart := false, narrowed := true }
def FnExactPackIntsUptoSaid : Prop := fnExactPackIntsUptoRow.holds Try.pinned (OpenSpec.upto fnExactPackIntsSpec)

/-- 'laws.FnExactPackRising', WHERE WHAT IT READS IS OF BULK AT MOST 1048576: true; the input reads as it did. -/
def fnExactPackRisingUptoRow : OpenClaim := { program := "ytfkejcakklpecaa", sum := "464c4796d4e4d71313d8eb6c09a89810f6e74ec739d8101568833ce89fa08323", func := "loop.example/g00018/laws.FnExactPackRising", spec := "fnExactPackRising", recurses := true, apart := false, narrowed := true }
def FnExactPackRisingUptoSaid : Prop := fnExactPackRisingUptoRow.holds Try.pinned (OpenSpec.upto fnExactPackRisingSpec)

/-- 'laws.FnExactUnpackInts', WHERE WHAT IT READS IS OF BULK AT MOST 1048576: true; the input reads as it did. -/
def fnExactUnpackIntsUptoRow : OpenClaim := { program := "ytfkejcakklpecaa", sum := "464c4796d4e4d71313d8eb6c09a89810f6e74ec739d8101568833ce89fa08323", func := "loop.example/g00018/laws.FnExactUnpackInts", spec := "fnExactUnpackInts", recurses := true, apart := false, narrowed := true }
def FnExactUnpackIntsUptoSaid : Prop := fnExactUnpackIntsUptoRow.holds Try.pinned (OpenSpec.upto fnExactUnpackIntsSpec)

/-- 'laws.FnExactUnpackRising', WHERE WHAT IT READS IS OF BULK AT MOST 1048576: true; the input reads as it did. -/
def fnExactUnpackRisingUptoRow : OpenClaim := { program := "ytfkejcakklpecaa", sum := "464c4796d4e4d71313d8eb6c09a89810f6e74ec739d8101568833ce89fa08323", func := "loop.example/g00018/laws.FnExactUnpackRising", spec := "fnExactUnpackRising", recurses := true, apart := false, narrowed := true }
def FnExactUnpackRisingUptoSaid : Prop := fnExactUnpackRisingUptoRow.holds Try.pinned (OpenSpec.upto fnExactUnpackRisingSpec)

/-- 'laws.FnPacked', WHERE WHAT IT READS IS OF BULK AT MOST 1048576: true; the input reads as it did. -/
def fnPackedUptoRow : OpenClaim := { program := "ytfkejcakklpecaa", sum := "464c4796d4e4d71313d8eb6c09a89810f6e74ec739d8101568833ce89fa08323", func := "loop.example/g00018/laws.FnPacked", spec := "fnPacked", recurses := true, apart := false, narrowed := true }
def FnPackedUptoSaid : Prop := fnPackedUptoRow.holds Try.pinned (OpenSpec.upto fnPackedSpec)

/-- 'laws.FnWeights', WHERE WHAT IT READS IS OF BULK AT MOST 1048576: true; the input reads as it did. -/
def fnWeightsUptoRow : OpenClaim := { program := "ytfkejcakklpecaa", sum := "464c4796d4e4d71313d8eb6c09a89810f6e74ec739d8101568833ce89fa08323", func := "loop.example/g00018/laws.FnWeights", spec := "fnWeights", apart := false, narrowed := true }
def FnWeightsUptoSaid : Prop := fnWeightsUptoRow.holds Try.pinned (OpenSpec.upto fnWeightsSpec)

/-- 'laws.FnRoute', WHERE WHAT IT READS IS OF BULK AT MOST 1048576: true; the input reads as it did. -/
def fnRouteUptoRow : OpenClaim := { program := "ytfkejcakklpecaa", sum := "464c4796d4e4d71313d8eb6c09a89810f6e74ec739d8101568833ce89fa08323", func := "loop.example/g00018/laws.FnRoute", spec := "fnRoute", recurses := true, apart := false, narrowed := true }
def FnRouteUptoSaid : Prop := fnRouteUptoRow.holds Try.pinned (OpenSpec.upto fnRouteSpec)

/-- 'laws.FnExactDfaOK', WHERE WHAT IT READS IS OF BULK AT MOST 1048576: true; the input reads as it did. -/
def fnExactDfaOKUptoRow : OpenClaim := { program := "ytfkejcakklpecaa", sum := "464c4796d4e4d71313d8eb6c09a89810f6e74ec739d8101568833ce89fa08323", func := "loop.example/g00018/laws.FnExactDfaOK", spec := "fnExactDfaOK", apart := false, narrowed := true }
def FnExactDfaOKUptoSaid : Prop := fnExactDfaOKUptoRow.holds Try.pinned (OpenSpec.upto fnExactDfaOKSpec)

/-- 'laws.FnExactWeight', WHERE WHAT IT READS IS OF BULK AT MOST 1048576: true; the input reads as it did. -/
def fnExactWeightUptoRow : OpenClaim := { program := "ytfkejcakklpecaa", sum := "464c4796d4e4d71313d8eb6c09a89810f6e74ec739d8101568833ce89fa08323", func := "loop.example/g00018/laws.FnExactWeight", spec := "fnExactWeight", apart := false, narrowed := true }
def FnExactWeightUptoSaid : Prop := fnExactWeightUptoRow.holds Try.pinned (OpenSpec.upto fnExactWeightSpec)

/-- 'laws.FnExactDigestAt', WHERE WHAT IT READS IS OF BULK AT MOST 1048576: true; the input reads as it did. -/
def fnExactDigestAtUptoRow : OpenClaim := { program := "ytfkejcakklpecaa", sum := "464c4796d4e4d71313d8eb6c09a89810f6e74ec739d8101568833ce89fa08323", func := "loop.example/g00018/laws.FnExactDigestAt", spec := "fnExactDigestAt", apart := false, narrowed := true }
def FnExactDigestAtUptoSaid : Prop := fnExactDigestAtUptoRow.holds Try.pinned (OpenSpec.upto fnExactDigestAtSpec)

/-- 'laws.FnExactDigestRank', WHERE WHAT IT READS IS OF BULK AT MOST 1048576: true; the input reads as it did. -/
def fnExactDigestRankUptoRow : OpenClaim := { program := "ytfkejcakklpecaa", sum := "464c4796d4e4d71313d8eb6c09a89810f6e74ec739d8101568833ce89fa08323", func := "loop.example/g00018/laws.FnExactDigestRank", spec := "fnExactDigestRank", apart := false, narrowed := true }
def FnExactDigestRankUptoSaid : Prop := fnExactDigestRankUptoRow.holds Try.pinned (OpenSpec.upto fnExactDigestRankSpec)

end Rows
end Go.Proofs.Ytfkejcakklpecaa
