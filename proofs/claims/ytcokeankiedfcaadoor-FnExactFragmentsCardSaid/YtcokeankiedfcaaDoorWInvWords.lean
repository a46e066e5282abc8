-- A part of a printed text: the lemmas that this claim's texts name (chosen by wip/x/wprune.py of this session).
import Derived.Test.YtcokeankiedfcaaDoorWInv
import Derived.Test.YtcokeankiedfcaaDoorWFootNe
namespace Go.Proofs.YtcokeankiedfcaaDoorW.PrintWords
open Go.RowKit
end Go.Proofs.YtcokeankiedfcaaDoorW.PrintWords
namespace Go.Proofs.YtcokeankiedfcaaDoorW.PrintLast
section
variable {ops : Array Oper} {a : Act} {o og : Oper} {g : Nat} {t : Tmp} {u : Bool}
end
end Go.Proofs.YtcokeankiedfcaaDoorW.PrintLast
