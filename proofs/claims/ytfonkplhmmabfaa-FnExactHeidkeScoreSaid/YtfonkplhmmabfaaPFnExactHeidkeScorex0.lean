-- PRINTED BY print.sh 35421559b90ae4d0a3588c463048766b98c2df88dd9212a6774a882060cdf62d: not written by this session
import Derived.Test.YtfonkplhmmabfaaProg
import Derived.Below
import Derived.Deep.Draws
import Derived.Deep.AppendLies
import Derived.Maps.AppendAt
import Derived.OwnWalk
import Derived.Laws.BytesArg
import Derived.Laws.MakeOwn
import Derived.Laws.OwnMore
import Derived.Deep.OwnRows
import Derived.Tactics
import Derived.Lib.ConvBytes
import Derived.Laws.Slices
import Derived.WalkKit
import Derived.KernelRfl
import Derived.RowKit3
import Derived.Deep.LoopGhost
import Derived.Deep.QuietTactic
import Derived.BigQuiet
import Derived.WideLaws
import Derived.Deep.DeepCutAuto
import Derived.Deep.CutBlock
import Derived.Deep.RegionHeld3
import Derived.Laws.Rows
import Derived.Lib.AppendStr
import Derived.ArgAppend
import Derived.Laws.IdiomCopy
import Derived.OrdersHeld
import Derived.Laws.BitsLemmas
import Derived.RowKit
import Derived.Test.YtfonkplhmmabfaaWWords
import Derived.Test.YtfonkplhmmabfaaWLast
import Derived.Test.YtfonkplhmmabfaaWTab
import Derived.Test.YtfonkplhmmabfaaWFour
import Derived.Test.YtfonkplhmmabfaaWQPut
import Derived.Test.YtfonkplhmmabfaaWApart
import Derived.Test.YtfonkplhmmabfaaWArr
import Derived.Test.YtfonkplhmmabfaaWZeros
import Derived.Test.YtfonkplhmmabfaaWFoot
import Derived.Test.YtfonkplhmmabfaaWKept
import Derived.Test.YtfonkplhmmabfaaWShare
import Derived.Test.YtfonkplhmmabfaaWN
import Derived.Test.YtfonkplhmmabfaaWFootNe
import Derived.Test.YtfonkplhmmabfaaWAt
import Derived.Test.YtfonkplhmmabfaaWEqStruct
import Derived.Test.YtfonkplhmmabfaaWRepsOne
import Derived.Test.YtfonkplhmmabfaaWInv
import Derived.Test.YtfonkplhmmabfaaWInvWords
import Derived.Test.YtfonkplhmmabfaaWGuard
import Derived.Test.YtfonkplhmmabfaaWNEv
import Derived.Test.YtfonkplhmmabfaaWMore
namespace Go.Proofs.Ytfonkplhmmabfaa.PFnExactHeidkeScore
open Go.RowKit Go.Proofs.YtfonkplhmmabfaaW.PrintWords Go.Proofs.YtfonkplhmmabfaaW.PrintLast Go.Proofs.YtfonkplhmmabfaaW.PrintMore
attribute [local go_sem] max2_int min2_int max_two min_two max_three min_three max_four min_four   -- for this text's walks alone
set_option linter.unusedVariables false
set_option linter.unusedSimpArgs false



def errW : Option Int → Value
  | none => .nilIface
  | some c => .iface 0 (.int .i64 c)
theorem errW_none : errW none = .nilIface := rfl
theorem errW_some (c : Int) : errW (some c) = .iface 0 (.int .i64 c) := rfl

theorem info3 : (Try.prog.info? 3).map (fun i => (i.zero, i.size, i.bytes)) = some (some (.int .i64 0), 1, 8) := by kernel_rfl
-- the values' own types

end Go.Proofs.Ytfonkplhmmabfaa.PFnExactHeidkeScore
