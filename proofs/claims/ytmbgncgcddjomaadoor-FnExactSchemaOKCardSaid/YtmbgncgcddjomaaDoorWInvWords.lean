-- A part of a printed text: the lemmas that this claim's texts name (chosen by wip/x/wprune.py of this session).
import Derived.Test.YtmbgncgcddjomaaDoorWInv
import Derived.Test.YtmbgncgcddjomaaDoorWFootNe
namespace Go.Proofs.YtmbgncgcddjomaaDoorW.PrintWords
open Go.RowKit
end Go.Proofs.YtmbgncgcddjomaaDoorW.PrintWords
namespace Go.Proofs.YtmbgncgcddjomaaDoorW.PrintLast
section
variable {ops : Array Oper} {a : Act} {o og : Oper} {g : Nat} {t : Tmp} {u : Bool}
end
end Go.Proofs.YtmbgncgcddjomaaDoorW.PrintLast
