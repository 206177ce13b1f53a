-- those of the print's words that this claim reaches: written by wip/tools/prunedead.py (a program of this project); not as printed
import Derived.Test.YtlfoojgbiafffaaGreatDoorWWords
import Derived.Laws.StructEq
/-! ### 53. '==' of structs as_ one Bool -/
namespace Go.Proofs.YtlfoojgbiafffaaGreatDoorW.PrintWords
open Go.RowKit
section
variable {P : Program} {d : Nat} {xs ys : Array Value} {f : Field} {fs : List Field} {a b : Value} {r s : Bool} {w : World}
end
end Go.Proofs.YtlfoojgbiafffaaGreatDoorW.PrintWords
