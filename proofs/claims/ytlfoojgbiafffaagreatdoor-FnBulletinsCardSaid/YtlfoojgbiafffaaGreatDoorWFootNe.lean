-- those of the print's words that this claim reaches: written by wip/tools/prunedead.py (a program of this project); not as printed
import Derived.Test.YtlfoojgbiafffaaGreatDoorWN
namespace Go.Proofs.YtlfoojgbiafffaaGreatDoorW.PrintWords
open Go.RowKit
namespace Kd
section
variable {α : Type} {d : Kd α} {W : World} {g n : Nat} {S ok : Nat → Prop} {A : Option Addr} {ad : Addr} {xs : List α}
end
end Kd
end Go.Proofs.YtlfoojgbiafffaaGreatDoorW.PrintWords
