-- those of the print's words that this seat's claims reach: written by wip/tools/trimdecl.py (a program of this project); not as printed
import Derived.Test.YtkegkbpadhddkaaWInv
import Derived.Test.YtkegkbpadhddkaaWFootNe
namespace Go.Proofs.YtkegkbpadhddkaaW.PrintWords
open Go.RowKit
end Go.Proofs.YtkegkbpadhddkaaW.PrintWords
namespace Go.Proofs.YtkegkbpadhddkaaW.PrintLast
section
variable {ops : Array Oper} {a : Act} {o og : Oper} {g : Nat} {t : Tmp} {u : Bool}
end
end Go.Proofs.YtkegkbpadhddkaaW.PrintLast
