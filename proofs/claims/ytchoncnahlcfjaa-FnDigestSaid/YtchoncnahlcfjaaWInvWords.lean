-- A part of a printed text: the lemmas that this claim's texts name (chosen by wip/x/wprune.py of this session).
import Derived.Test.YtchoncnahlcfjaaWInv
import Derived.Test.YtchoncnahlcfjaaWFootNe
namespace Go.Proofs.YtchoncnahlcfjaaW.PrintWords
open Go.RowKit
end Go.Proofs.YtchoncnahlcfjaaW.PrintWords
namespace Go.Proofs.YtchoncnahlcfjaaW.PrintLast
section
variable {ops : Array Oper} {a : Act} {o og : Oper} {g : Nat} {t : Tmp} {u : Bool}
end
end Go.Proofs.YtchoncnahlcfjaaW.PrintLast
