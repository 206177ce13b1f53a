-- those of the print's words that this seat's claims reach: written by wip/tools/trimdecl.py (a program of this project); not as printed
import Derived.Test.YtppjagpjlcbhpaaWInv
import Derived.Test.YtppjagpjlcbhpaaWFootNe
namespace Go.Proofs.YtppjagpjlcbhpaaW.PrintWords
open Go.RowKit
end Go.Proofs.YtppjagpjlcbhpaaW.PrintWords
namespace Go.Proofs.YtppjagpjlcbhpaaW.PrintLast
section
variable {ops : Array Oper} {a : Act} {o og : Oper} {g : Nat} {t : Tmp} {u : Bool}
end
end Go.Proofs.YtppjagpjlcbhpaaW.PrintLast
