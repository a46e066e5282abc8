-- A part of a printed text: the lemmas that this claim's texts name (chosen by wip/x/wprune.py of this session).
import Derived.Test.YtnpdmleglcbobaaWWords
import Derived.Laws.StructEq
namespace Go.Proofs.YtnpdmleglcbobaaW.PrintWords
open Go.RowKit
section
variable {P : Program} {d : Nat} {xs ys : Array Value} {f : Field} {fs : List Field} {a b : Value} {r s : Bool} {w : World}
end
end Go.Proofs.YtnpdmleglcbobaaW.PrintWords
