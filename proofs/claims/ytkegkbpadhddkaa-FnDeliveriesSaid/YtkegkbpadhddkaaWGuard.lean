-- those of the print's words that this seat's claims reach: written by wip/tools/trimdecl.py (a program of this project); not as printed
import Derived.Test.YtkegkbpadhddkaaWWords
/-! ### 58. A guarded operation whose guard is known to want it: the same goal without the guard -/
namespace Go.Proofs.YtkegkbpadhddkaaW.PrintWords
open Go.RowKit
section
variable {P : Program} {ops : Array Oper} {rest : List Oper} {o : Oper} {a : Act} {Q : Exit → Act → World → Prop} {W : World}
end
end Go.Proofs.YtkegkbpadhddkaaW.PrintWords
