-- A part of a printed text: the lemmas that this claim's texts name (chosen by wip/x/wprune.py of this session).
import Derived.Test.YtnpdmleglcbobaaWInv
import Derived.Test.YtnpdmleglcbobaaWFootNe
namespace Go.Proofs.YtnpdmleglcbobaaW.PrintWords
open Go.RowKit
end Go.Proofs.YtnpdmleglcbobaaW.PrintWords
namespace Go.Proofs.YtnpdmleglcbobaaW.PrintLast
section
variable {ops : Array Oper} {a : Act} {o og : Oper} {g : Nat} {t : Tmp} {u : Bool}
end
end Go.Proofs.YtnpdmleglcbobaaW.PrintLast
