-- those of the print's words that this claim reaches: written by wip/tools/prunedead.py (a program of this project); not as printed
import Derived.Test.YtlfoojgbiafffaaGreatDoorWN
namespace Go.Proofs.YtlfoojgbiafffaaGreatDoorW.PrintWords
open Go.RowKit
namespace Kd
section
variable {α : Type} {d : Kd α} {e base n cap g : Nat} {ok ok' okp : Nat → Prop} {w w1 W : World} {v v1 : Value} {xs ys : List α}
end
section
variable {P : Program} {ops : Array Oper} {rest : List Oper} {o : Oper} {a : Act} {Q : Exit → Act → World → Prop} {Kc : Act → World → Prop} {α : Type}
end
end Kd
end Go.Proofs.YtlfoojgbiafffaaGreatDoorW.PrintWords
