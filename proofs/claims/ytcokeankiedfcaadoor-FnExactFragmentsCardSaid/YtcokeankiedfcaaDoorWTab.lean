-- A part of a printed text: the lemmas that this claim's texts name (chosen by wip/x/wprune.py of this session).
import Derived.Test.YtcokeankiedfcaaDoorWLast
import Derived.Test.YtcokeankiedfcaaDoorWWords
namespace Go.Proofs.YtcokeankiedfcaaDoorW.PrintLast
open Go.Proofs.YtcokeankiedfcaaDoorW.PrintWords (Aside0)
section
variable {md : Region.Mode} {ops : Array Oper} {T : Bool × List (List Nat × List Nat)} {l l' li lj lk : Array Bool} {ds : List Nat} {i j k : Nat}
end
end Go.Proofs.YtcokeankiedfcaaDoorW.PrintLast
