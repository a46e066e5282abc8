-- A part of a printed text: the lemmas that this claim's texts name (chosen by wip/x/wprune.py of this session).
import Derived.Test.YtchoncnahlcfjaaDoorWInv
import Derived.Test.YtchoncnahlcfjaaDoorWFootNe
namespace Go.Proofs.YtchoncnahlcfjaaDoorW.PrintWords
open Go.RowKit
end Go.Proofs.YtchoncnahlcfjaaDoorW.PrintWords
namespace Go.Proofs.YtchoncnahlcfjaaDoorW.PrintLast
section
variable {ops : Array Oper} {a : Act} {o og : Oper} {g : Nat} {t : Tmp} {u : Bool}
end
end Go.Proofs.YtchoncnahlcfjaaDoorW.PrintLast
