-- those of the print's words that this claim reaches: written by wip/tools/prunedead.py (a program of this project); not as printed
import Derived.Test.YtlfoojgbiafffaaGreatDoorWInv
import Derived.Test.YtlfoojgbiafffaaGreatDoorWFootNe
namespace Go.Proofs.YtlfoojgbiafffaaGreatDoorW.PrintWords
open Go.RowKit
end Go.Proofs.YtlfoojgbiafffaaGreatDoorW.PrintWords
namespace Go.Proofs.YtlfoojgbiafffaaGreatDoorW.PrintLast
section
variable {ops : Array Oper} {a : Act} {o og : Oper} {g : Nat} {t : Tmp} {u : Bool}
end
end Go.Proofs.YtlfoojgbiafffaaGreatDoorW.PrintLast
