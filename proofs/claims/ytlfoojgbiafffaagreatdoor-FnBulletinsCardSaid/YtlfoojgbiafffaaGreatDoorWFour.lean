-- those of the print's words that this claim reaches: written by wip/tools/prunedead.py (a program of this project); not as printed
import Derived.Test.YtlfoojgbiafffaaGreatDoorWTab
namespace Go.Proofs.YtlfoojgbiafffaaGreatDoorW.PrintLast
section
variable {P : Program} {ops : Array Oper} {Q : Exit → Act → World → Prop} {md : Region.Mode} {S : World → Prop} {ds : List Nat} {T : Bool × List (List Nat × List Nat)}
end
end Go.Proofs.YtlfoojgbiafffaaGreatDoorW.PrintLast
