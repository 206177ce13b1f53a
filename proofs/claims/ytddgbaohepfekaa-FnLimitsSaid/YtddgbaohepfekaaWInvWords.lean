-- those of the print's words that this seat's claims reach: written by wip/tools/trimdecl.py (a program of this project); not as printed
import Derived.Test.YtddgbaohepfekaaWInv
import Derived.Test.YtddgbaohepfekaaWFootNe
namespace Go.Proofs.YtddgbaohepfekaaW.PrintWords
open Go.RowKit
end Go.Proofs.YtddgbaohepfekaaW.PrintWords
namespace Go.Proofs.YtddgbaohepfekaaW.PrintLast
section
variable {ops : Array Oper} {a : Act} {o og : Oper} {g : Nat} {t : Tmp} {u : Bool}
end
end Go.Proofs.YtddgbaohepfekaaW.PrintLast
