/-
  No cell of these rows narrows 'for every input' (looked for: loops, veiled, ifaces, maps, wideKeys, modest, calm, conditions, laid).
  DERIVED. THE GIVEN ROWS OF THIS SEAT. 8 by the template 'for every input the law returns true; each argument reads behind the call as it read before'; 0 by the template 'total and deterministic' (their statements: YtoddajhpfhdemaaTotals.lean).
  GIVEN WITH THE SEED: the statements are not yours to turn. If you find one false, say at which input.
  Laid BY PROGRAM, IN A SANDBOX (cutbox-rows.mjs): the forced cells as the released guide's own fill.sh prints them over the translation 094987e05fa93304… (all of the seat's roots in one cut). By AI agents, Wed Nov 11 2026. No macro, syntax, notation, axiom, sorry.
-/
import Derived.Test.YtoddajhpfhdemaaChecked
import GoSem.Claim
import GoSem.ClaimJoined
import GoSem.ClaimMapViews
import Derived.JoinedTies
import Derived.KernelRfl
namespace Go.Proofs.Ytoddajhpfhdemaa
/- THE CELL 'sum', in the pinned program and in every row, IS THE sha256 OF THE DUMP (.gsa) THAT YtoddajhpfhdemaaProg.lean LOADS. Nothing in Lean hashes anything: it is a label: what it is worth is what the hold of that sum in a sandbox is worth. -/
noncomputable def Try.pinned : Pinned := { name := "ytoddajhpfhdemaa", sum := "094987e05fa933044076ea9d99f591a1e25c560fca855003b986276323538019", checked := Try.checked }
namespace Rows
def none {H : Type} : Left H := { results := [], args := [] }

/-- 'laws.FnExactWorstWait': WHATEVER THE INPUT: true; the input reads as it did. -/
def fnExactWorstWaitSpec : ChangeSpec := { name := "fnExactWorstWait", fn := fun _ => fun
  | [d] => { results := [.lit (.bool true)], args := [d] }
  | _ => none }
def fnExactWorstWaitRow : OpenClaim := { program := "ytoddajhpfhdemaa", sum := "094987e05fa933044076ea9d99f591a1e25c560fca855003b986276323538019", func := "loop.example/g00889/laws.FnExactWorstWait", spec := "fnExactWorstWait", apart := false }
def FnExactWorstWaitSaid : Prop := fnExactWorstWaitRow.holds Try.pinned (OpenSpec.ofChange fnExactWorstWaitSpec)

/-- ITS FALSE NEIGHBOUR: 'it returns false'. Refute it at one input. -/
def fnExactWorstWaitWrong : ChangeSpec := { name := "fnExactWorstWait", fn := fun _ => fun
  | [d] => { results := [.lit (.bool false)], args := [d] }
  | _ => none }
def FnExactWorstWaitWrongFalsely : Prop := fnExactWorstWaitRow.holds Try.pinned (OpenSpec.ofChange fnExactWorstWaitWrong)

/-- 'laws.FnExactIsValidQueue': WHATEVER THE INPUT: true; the input reads as it did. -/
def fnExactIsValidQueueSpec : ChangeSpec := { name := "fnExactIsValidQueue", fn := fun _ => fun
  | [d] => { results := [.lit (.bool true)], args := [d] }
  | _ => none }
def fnExactIsValidQueueRow : OpenClaim := { program := "ytoddajhpfhdemaa", sum := "094987e05fa933044076ea9d99f591a1e25c560fca855003b986276323538019", func := "loop.example/g00889/laws.FnExactIsValidQueue", spec := "fnExactIsValidQueue", apart := false }
def FnExactIsValidQueueSaid : Prop := fnExactIsValidQueueRow.holds Try.pinned (OpenSpec.ofChange fnExactIsValidQueueSpec)

/-- ITS FALSE NEIGHBOUR: 'it returns false'. Refute it at one input. -/
def fnExactIsValidQueueWrong : ChangeSpec := { name := "fnExactIsValidQueue", fn := fun _ => fun
  | [d] => { results := [.lit (.bool false)], args := [d] }
  | _ => none }
def FnExactIsValidQueueWrongFalsely : Prop := fnExactIsValidQueueRow.holds Try.pinned (OpenSpec.ofChange fnExactIsValidQueueWrong)

/-- 'laws.FnExactNextMinute': WHATEVER THE INPUT: true; the input reads as it did. -/
def fnExactNextMinuteSpec : ChangeSpec := { name := "fnExactNextMinute", fn := fun _ => fun
  | [d] => { results := [.lit (.bool true)], args := [d] }
  | _ => none }
def fnExactNextMinuteRow : OpenClaim := { program := "ytoddajhpfhdemaa", sum := "094987e05fa933044076ea9d99f591a1e25c560fca855003b986276323538019", func := "loop.example/g00889/laws.FnExactNextMinute", spec := "fnExactNextMinute", apart := false }
def FnExactNextMinuteSaid : Prop := fnExactNextMinuteRow.holds Try.pinned (OpenSpec.ofChange fnExactNextMinuteSpec)

/-- ITS FALSE NEIGHBOUR: 'it returns false'. Refute it at one input. -/
def fnExactNextMinuteWrong : ChangeSpec := { name := "fnExactNextMinute", fn := fun _ => fun
  | [d] => { results := [.lit (.bool false)], args := [d] }
  | _ => none }
def FnExactNextMinuteWrongFalsely : Prop := fnExactNextMinuteRow.holds Try.pinned (OpenSpec.ofChange fnExactNextMinuteWrong)

/-- 'laws.FnExactCountStates': WHATEVER THE INPUT: true; the input reads as it did. -/
def fnExactCountStatesSpec : ChangeSpec := { name := "fnExactCountStates", fn := fun _ => fun
  | [d] => { results := [.lit (.bool true)], args := [d] }
  | _ => none }
def fnExactCountStatesRow : OpenClaim := { program := "ytoddajhpfhdemaa", sum := "094987e05fa933044076ea9d99f591a1e25c560fca855003b986276323538019", func := "loop.example/g00889/laws.FnExactCountStates", spec := "fnExactCountStates", apart := false }
def FnExactCountStatesSaid : Prop := fnExactCountStatesRow.holds Try.pinned (OpenSpec.ofChange fnExactCountStatesSpec)

/-- ITS FALSE NEIGHBOUR: 'it returns false'. Refute it at one input. -/
def fnExactCountStatesWrong : ChangeSpec := { name := "fnExactCountStates", fn := fun _ => fun
  | [d] => { results := [.lit (.bool false)], args := [d] }
  | _ => none }
def FnExactCountStatesWrongFalsely : Prop := fnExactCountStatesRow.holds Try.pinned (OpenSpec.ofChange fnExactCountStatesWrong)

/-- 'laws.FnExactSendNext': WHATEVER THE INPUT: true; the input reads as it did. -/
def fnExactSendNextSpec : ChangeSpec := { name := "fnExactSendNext", fn := fun _ => fun
  | [d1, d2] => { results := [.lit (.bool true)], args := [d1, d2] }
  | _ => none }
def fnExactSendNextRow : OpenClaim := { program := "ytoddajhpfhdemaa", sum := "094987e05fa933044076ea9d99f591a1e25c560fca855003b986276323538019", func := "loop.example/g00889/laws.FnExactSendNext", spec := "fnExactSendNext", apart := false }
def FnExactSendNextSaid : Prop := fnExactSendNextRow.holds Try.pinned (OpenSpec.ofChange fnExactSendNextSpec)

/-- ITS FALSE NEIGHBOUR: 'it returns false'. Refute it at one input. -/
def fnExactSendNextWrong : ChangeSpec := { name := "fnExactSendNext", fn := fun _ => fun
  | [d1, d2] => { results := [.lit (.bool false)], args := [d1, d2] }
  | _ => none }
def FnExactSendNextWrongFalsely : Prop := fnExactSendNextRow.holds Try.pinned (OpenSpec.ofChange fnExactSendNextWrong)

/-- 'laws.FnExactTakeReceipt': WHATEVER THE INPUT: true; the input reads as it did. -/
def fnExactTakeReceiptSpec : ChangeSpec := { name := "fnExactTakeReceipt", fn := fun _ => fun
  | [d1, d2] => { results := [.lit (.bool true)], args := [d1, d2] }
  | _ => none }
def fnExactTakeReceiptRow : OpenClaim := { program := "ytoddajhpfhdemaa", sum := "094987e05fa933044076ea9d99f591a1e25c560fca855003b986276323538019", func := "loop.example/g00889/laws.FnExactTakeReceipt", spec := "fnExactTakeReceipt", unfollowed := true, recurses := true, apart := false }
def FnExactTakeReceiptSaid : Prop := fnExactTakeReceiptRow.holds Try.pinned (OpenSpec.ofChange fnExactTakeReceiptSpec)

/-- ITS FALSE NEIGHBOUR: 'it returns false'. Refute it at one input. -/
def fnExactTakeReceiptWrong : ChangeSpec := { name := "fnExactTakeReceipt", fn := fun _ => fun
  | [d1, d2] => { results := [.lit (.bool false)], args := [d1, d2] }
  | _ => none }
def FnExactTakeReceiptWrongFalsely : Prop := fnExactTakeReceiptRow.holds Try.pinned (OpenSpec.ofChange fnExactTakeReceiptWrong)

/-- 'laws.FnExactPruneQueue': WHATEVER THE INPUT: true; the input reads as it did. -/
def fnExactPruneQueueSpec : ChangeSpec := { name := "fnExactPruneQueue", fn := fun _ => fun
  | [d] => { results := [.lit (.bool true)], args := [d] }
  | _ => none }
def fnExactPruneQueueRow : OpenClaim := { program := "ytoddajhpfhdemaa", sum := "094987e05fa933044076ea9d99f591a1e25c560fca855003b986276323538019", func := "loop.example/g00889/laws.FnExactPruneQueue", spec := "fnExactPruneQueue", unfollowed := true, recurses := true, apart := false }
def FnExactPruneQueueSaid : Prop := fnExactPruneQueueRow.holds Try.pinned (OpenSpec.ofChange fnExactPruneQueueSpec)

/-- ITS FALSE NEIGHBOUR: 'it returns false'. Refute it at one input. -/
def fnExactPruneQueueWrong : ChangeSpec := { name := "fnExactPruneQueue", fn := fun _ => fun
  | [d] => { results := [.lit (.bool false)], args := [d] }
  | _ => none }
def FnExactPruneQueueWrongFalsely : Prop := fnExactPruneQueueRow.holds Try.pinned (OpenSpec.ofChange fnExactPruneQueueWrong)

/-- 'laws.FnExactPassMinute': WHATEVER THE INPUT: true; the input reads as it did. -/
def fnExactPassMinuteSpec : ChangeSpec := { name := "fnExactPassMinute", fn := fun _ => fun
  | [d1, d2] => { results := [.lit (.bool true)], args := [d1, d2] }
  | _ => none }
def fnExactPassMinuteRow : OpenClaim := { program := "ytoddajhpfhdemaa", sum := "094987e05fa933044076ea9d99f591a1e25c560fca855003b986276323538019", func := "loop.example/g00889/laws.FnExactPassMinute", spec := "fnExactPassMinute", apart := false }
def FnExactPassMinuteSaid : Prop := fnExactPassMinuteRow.holds Try.pinned (OpenSpec.ofChange fnExactPassMinuteSpec)

/-- ITS FALSE NEIGHBOUR: 'it returns false'. Refute it at one input. -/
def fnExactPassMinuteWrong : ChangeSpec := { name := "fnExactPassMinute", fn := fun _ => fun
  | [d1, d2] => { results := [.lit (.bool false)], args := [d1, d2] }
  | _ => none }
def FnExactPassMinuteWrongFalsely : Prop := fnExactPassMinuteRow.holds Try.pinned (OpenSpec.ofChange fnExactPassMinuteWrong)

/- THE SECOND FORM. 'bulk': how many values and letters a reading holds, each counted each time it is reached (what is shared counts as often as it is met; a slice's spare places count too). A statement '..UptoSaid' is the law's where the arguments, and the package variables that the reading takes, are together of bulk at most 1048576: NARROWER than '..Said'. Prove '..Said' where nothing that the law and all that it calls make is longer than what came in: it says more and counts as full. Else prove '..UptoSaid'. A law counts once. -/
mutual
def uptoBulk {H : Type} : DataW H → Nat
  | .lit (.string bytes) => bytes.length + 1
  | .lit _ => 1
  | .nil => 1
  | .ptr d => uptoBulk d + 1
  | .slice elems spare => uptoBulkAll elems + uptoBulkAll spare + 1
  | .agg parts => uptoBulkAll parts + 1
  | .iface _ d => uptoBulk d + 1
  | .map entries => uptoBulkEntries entries + 1
  | .held _ => 1
def uptoBulkAll {H : Type} : List (DataW H) → Nat
  | [] => 0
  | d :: r => uptoBulk d + uptoBulkAll r
def uptoBulkEntries {H : Type} : List (Lit × DataW H) → Nat
  | [] => 0
  | x :: r => uptoBulkEntry x + uptoBulkEntries r
def uptoBulkEntry {H : Type} : Lit × DataW H → Nat
  | (.string bytes, d) => bytes.length + uptoBulk d + 1
  | (_, d) => uptoBulk d + 1
 end
def uptoSmall : (H : Type) → List (DataW H) → Bool := fun _ ds => decide (uptoBulkAll ds ≤ 1048576)
def OpenSpec.upto (s : _root_.Go.ChangeSpec) : _root_.Go.OpenSpec := { _root_.Go.OpenSpec.ofChange s with cond := some uptoSmall }

/-- 'laws.FnExactWorstWait', WHERE WHAT IT READS IS OF BULK AT MOST 1048576: true; the input reads as it did. -/
def fnExactWorstWaitUptoRow : OpenClaim := { program := "ytoddajhpfhdemaa", sum := "094987e05fa933044076ea9d99f591a1e25c560fca855003b986276323538019", func := "loop.example/g00889/laws.FnExactWorstWait", spec := "fnExactWorstWait", apart := false, narrowed := true }
def FnExactWorstWaitUptoSaid : Prop := fnExactWorstWaitUptoRow.holds Try.pinned (OpenSpec.upto fnExactWorstWaitSpec)

/-- 'laws.FnExactIsValidQueue', WHERE WHAT IT READS IS OF BULK AT MOST 1048576: true; the input reads as it did. -/
def fnExactIsValidQueueUptoRow : OpenClaim := { program := "ytoddajhpfhdemaa", sum := "094987e05fa933044076ea9d99f591a1e25c560fca855003b986276323538019", func := "loop.example/g00889/laws.FnExactIsValidQueue", spec := "fnExactIsValidQueue", apart := false, narrowed := true }
def FnExactIsValidQueueUptoSaid : Prop := fnExactIsValidQueueUptoRow.holds Try.pinned (OpenSpec.upto fnExactIsValidQueueSpec)

/-- 'laws.FnExactNextMinute', WHERE WHAT IT READS IS OF BULK AT MOST 1048576: true; the input reads as it did. -/
def fnExactNextMinuteUptoRow : OpenClaim := { program := "ytoddajhpfhdemaa", sum := "094987e05fa933044076ea9d99f591a1e25c560fca855003b986276323538019", func := "loop.example/g00889/laws.FnExactNextMinute", spec := "fnExactNextMinute", apart := false, narrowed := true }
def FnExactNextMinuteUptoSaid : Prop := fnExactNextMinuteUptoRow.holds Try.pinned (OpenSpec.upto fnExactNextMinuteSpec)

/-- 'laws.FnExactCountStates', WHERE WHAT IT READS IS OF BULK AT MOST 1048576: true; the input reads as it did. -/
def fnExactCountStatesUptoRow : OpenClaim := { program := "ytoddajhpfhdemaa", sum := "094987e05fa933044076ea9d99f591a1e25c560fca855003b986276323538019", func := "loop.example/g00889/laws.FnExactCountStates", spec := "fnExactCountStates", apart := false, narrowed := true }
def FnExactCountStatesUptoSaid : Prop := fnExactCountStatesUptoRow.holds Try.pinned (OpenSpec.upto fnExactCountStatesSpec)

/-- 'laws.FnExactSendNext', WHERE WHAT IT READS IS OF BULK AT MOST 1048576: true; the input reads as it did. -/
def fnExactSendNextUptoRow : OpenClaim := { program := "ytoddajhpfhdemaa", sum := "094987e05fa933044076ea9d99f591a1e25c560fca855003b986276323538019", func := "loop.example/g00889/laws.FnExactSendNext", spec := "fnExactSendNext", apart := false, narrowed := true }
def FnExactSendNextUptoSaid : Prop := fnExactSendNextUptoRow.holds Try.pinned (OpenSpec.upto fnExactSendNextSpec)

/-- 'laws.FnExactTakeReceipt', WHERE WHAT IT READS IS OF BULK AT MOST 1048576: true; the input reads as it did. -/
def fnExactTakeReceiptUptoRow : OpenClaim := { program := "ytoddajhpfhdemaa", sum := "094987e05fa933044076ea9d99f591a1e25c560fca855003b986276323538019", func := "loop.example/g00889/laws.FnExactTakeReceipt", spec := "fnExactTakeReceipt", unfollowed := true, recurses := true, apart := false, narrowed := true }
def FnExactTakeReceiptUptoSaid : Prop := fnExactTakeReceiptUptoRow.holds Try.pinned (OpenSpec.upto fnExactTakeReceiptSpec)

/-- 'laws.FnExactPruneQueue', WHERE WHAT IT READS IS OF BULK AT MOST 1048576: true; the input reads as it did. -/
def fnExactPruneQueueUptoRow : OpenClaim := { program := "ytoddajhpfhdemaa", sum := "094987e05fa933044076ea9d99f591a1e25c560fca855003b986276323538019", func := "loop.example/g00889/laws.FnExactPruneQueue", spec := "fnExactPruneQueue", unfollowed := true, recurses := true, apart := false, narrowed := true }
def FnExactPruneQueueUptoSaid : Prop := fnExactPruneQueueUptoRow.holds Try.pinned (OpenSpec.upto fnExactPruneQueueSpec)

/-- 'laws.FnExactPassMinute', WHERE WHAT IT READS IS OF BULK AT MOST 1048576: true; the input reads as it did. -/
def fnExactPassMinuteUptoRow : OpenClaim := { program := "ytoddajhpfhdemaa", sum := "094987e05fa933044076ea9d99f591a1e25c560fca855003b986276323538019", func := "loop.example/g00889/laws.FnExactPassMinute", spec := "fnExactPassMinute", apart := false, narrowed := true }
def FnExactPassMinuteUptoSaid : Prop := fnExactPassMinuteUptoRow.holds Try.pinned (OpenSpec.upto fnExactPassMinuteSpec)

end Rows
end Go.Proofs.Ytoddajhpfhdemaa
