/-
  No cell of these rows narrows 'for every input' (looked for: loops, veiled, ifaces, maps, wideKeys, modest, calm, conditions, laid).
  DERIVED. THE GIVEN ROWS OF THIS SEAT. 7 by the template 'for every input the law returns true; each argument reads behind the call as it read before'; 0 by the template 'total and deterministic' (their statements: YtjagdjbiljooiaaTotals.lean).
  GIVEN WITH THE SEED: the statements are not yours to turn. If you find one false, say at which input.
  Laid BY PROGRAM, IN A SANDBOX (cutbox-rows.mjs): the forced cells as the released guide's own fill.sh prints them over the translation 3687c8627450f09a… (all of the seat's roots in one cut). By AI agents, Wed Nov 11 2026. No macro, syntax, notation, axiom, sorry.
-/
import Derived.Test.YtjagdjbiljooiaaChecked
import GoSem.Claim
import GoSem.ClaimJoined
import GoSem.ClaimMapViews
import Derived.JoinedTies
import Derived.KernelRfl
namespace Go.Proofs.Ytjagdjbiljooiaa
/- THE CELL 'sum', in the pinned program and in every row, IS THE sha256 OF THE DUMP (.gsa) THAT YtjagdjbiljooiaaProg.lean LOADS. Nothing in Lean hashes anything: it is a label: what it is worth is what the hold of that sum in a sandbox is worth. -/
noncomputable def Try.pinned : Pinned := { name := "ytjagdjbiljooiaa", sum := "3687c8627450f09a5c1cb160ffa7269011b4516fc6790236af35d8f37efe983e", checked := Try.checked }
namespace Rows
def none {H : Type} : Left H := { results := [], args := [] }

/-- 'laws.FnExactAddTables': WHATEVER THE INPUT: true; the input reads as it did. -/
def fnExactAddTablesSpec : ChangeSpec := { name := "fnExactAddTables", fn := fun _ => fun
  | [d1, d2] => { results := [.lit (.bool true)], args := [d1, d2] }
  | _ => none }
def fnExactAddTablesRow : OpenClaim := { program := "ytjagdjbiljooiaa", sum := "3687c8627450f09a5c1cb160ffa7269011b4516fc6790236af35d8f37efe983e", func := "loop.example/g00889/laws.FnExactAddTables", spec := "fnExactAddTables", apart := false }
def FnExactAddTablesSaid : Prop := fnExactAddTablesRow.holds Try.pinned (OpenSpec.ofChange fnExactAddTablesSpec)

/-- ITS FALSE NEIGHBOUR: 'it returns false'. Refute it at one input. -/
def fnExactAddTablesWrong : ChangeSpec := { name := "fnExactAddTables", fn := fun _ => fun
  | [d1, d2] => { results := [.lit (.bool false)], args := [d1, d2] }
  | _ => none }
def FnExactAddTablesWrongFalsely : Prop := fnExactAddTablesRow.holds Try.pinned (OpenSpec.ofChange fnExactAddTablesWrong)

/-- 'laws.FnExactCompareTables': WHATEVER THE INPUT: true; the input reads as it did. -/
def fnExactCompareTablesSpec : ChangeSpec := { name := "fnExactCompareTables", fn := fun _ => fun
  | [d1, d2] => { results := [.lit (.bool true)], args := [d1, d2] }
  | _ => none }
def fnExactCompareTablesRow : OpenClaim := { program := "ytjagdjbiljooiaa", sum := "3687c8627450f09a5c1cb160ffa7269011b4516fc6790236af35d8f37efe983e", func := "loop.example/g00889/laws.FnExactCompareTables", spec := "fnExactCompareTables", apart := false }
def FnExactCompareTablesSaid : Prop := fnExactCompareTablesRow.holds Try.pinned (OpenSpec.ofChange fnExactCompareTablesSpec)

/-- ITS FALSE NEIGHBOUR: 'it returns false'. Refute it at one input. -/
def fnExactCompareTablesWrong : ChangeSpec := { name := "fnExactCompareTables", fn := fun _ => fun
  | [d1, d2] => { results := [.lit (.bool false)], args := [d1, d2] }
  | _ => none }
def FnExactCompareTablesWrongFalsely : Prop := fnExactCompareTablesRow.holds Try.pinned (OpenSpec.ofChange fnExactCompareTablesWrong)

/-- 'laws.FnExactGapsOf': WHATEVER THE INPUT: true; the input reads as it did. -/
def fnExactGapsOfSpec : ChangeSpec := { name := "fnExactGapsOf", fn := fun _ => fun
  | [d] => { results := [.lit (.bool true)], args := [d] }
  | _ => none }
def fnExactGapsOfRow : OpenClaim := { program := "ytjagdjbiljooiaa", sum := "3687c8627450f09a5c1cb160ffa7269011b4516fc6790236af35d8f37efe983e", func := "loop.example/g00889/laws.FnExactGapsOf", spec := "fnExactGapsOf", apart := false }
def FnExactGapsOfSaid : Prop := fnExactGapsOfRow.holds Try.pinned (OpenSpec.ofChange fnExactGapsOfSpec)

/-- ITS FALSE NEIGHBOUR: 'it returns false'. Refute it at one input. -/
def fnExactGapsOfWrong : ChangeSpec := { name := "fnExactGapsOf", fn := fun _ => fun
  | [d] => { results := [.lit (.bool false)], args := [d] }
  | _ => none }
def FnExactGapsOfWrongFalsely : Prop := fnExactGapsOfRow.holds Try.pinned (OpenSpec.ofChange fnExactGapsOfWrong)

/-- 'laws.FnExactReliabilityTable': WHATEVER THE INPUT: true; the input reads as it did. -/
def fnExactReliabilityTableSpec : ChangeSpec := { name := "fnExactReliabilityTable", fn := fun _ => fun
  | [d] => { results := [.lit (.bool true)], args := [d] }
  | _ => none }
def fnExactReliabilityTableRow : OpenClaim := { program := "ytjagdjbiljooiaa", sum := "3687c8627450f09a5c1cb160ffa7269011b4516fc6790236af35d8f37efe983e", func := "loop.example/g00889/laws.FnExactReliabilityTable", spec := "fnExactReliabilityTable", unfollowed := true, recurses := true, apart := false }
def FnExactReliabilityTableSaid : Prop := fnExactReliabilityTableRow.holds Try.pinned (OpenSpec.ofChange fnExactReliabilityTableSpec)

/-- ITS FALSE NEIGHBOUR: 'it returns false'. Refute it at one input. -/
def fnExactReliabilityTableWrong : ChangeSpec := { name := "fnExactReliabilityTable", fn := fun _ => fun
  | [d] => { results := [.lit (.bool false)], args := [d] }
  | _ => none }
def FnExactReliabilityTableWrongFalsely : Prop := fnExactReliabilityTableRow.holds Try.pinned (OpenSpec.ofChange fnExactReliabilityTableWrong)

/-- 'laws.FnExactTakeReceipt': WHATEVER THE INPUT: true; the input reads as it did. -/
def fnExactTakeReceiptSpec : ChangeSpec := { name := "fnExactTakeReceipt", fn := fun _ => fun
  | [d1, d2] => { results := [.lit (.bool true)], args := [d1, d2] }
  | _ => none }
def fnExactTakeReceiptRow : OpenClaim := { program := "ytjagdjbiljooiaa", sum := "3687c8627450f09a5c1cb160ffa7269011b4516fc6790236af35d8f37efe983e", func := "loop.example/g00889/laws.FnExactTakeReceipt", spec := "fnExactTakeReceipt", unfollowed := true, recurses := true, apart := false }
def FnExactTakeReceiptSaid : Prop := fnExactTakeReceiptRow.holds Try.pinned (OpenSpec.ofChange fnExactTakeReceiptSpec)

/-- ITS FALSE NEIGHBOUR: 'it returns false'. Refute it at one input. -/
def fnExactTakeReceiptWrong : ChangeSpec := { name := "fnExactTakeReceipt", fn := fun _ => fun
  | [d1, d2] => { results := [.lit (.bool false)], args := [d1, d2] }
  | _ => none }
def FnExactTakeReceiptWrongFalsely : Prop := fnExactTakeReceiptRow.holds Try.pinned (OpenSpec.ofChange fnExactTakeReceiptWrong)

/-- 'laws.FnExactPruneQueue': WHATEVER THE INPUT: true; the input reads as it did. -/
def fnExactPruneQueueSpec : ChangeSpec := { name := "fnExactPruneQueue", fn := fun _ => fun
  | [d] => { results := [.lit (.bool true)], args := [d] }
  | _ => none }
def fnExactPruneQueueRow : OpenClaim := { program := "ytjagdjbiljooiaa", sum := "3687c8627450f09a5c1cb160ffa7269011b4516fc6790236af35d8f37efe983e", func := "loop.example/g00889/laws.FnExactPruneQueue", spec := "fnExactPruneQueue", unfollowed := true, recurses := true, apart := false }
def FnExactPruneQueueSaid : Prop := fnExactPruneQueueRow.holds Try.pinned (OpenSpec.ofChange fnExactPruneQueueSpec)

/-- ITS FALSE NEIGHBOUR: 'it returns false'. Refute it at one input. -/
def fnExactPruneQueueWrong : ChangeSpec := { name := "fnExactPruneQueue", fn := fun _ => fun
  | [d] => { results := [.lit (.bool false)], args := [d] }
  | _ => none }
def FnExactPruneQueueWrongFalsely : Prop := fnExactPruneQueueRow.holds Try.pinned (OpenSpec.ofChange fnExactPruneQueueWrong)

/-- 'laws.FnExactPassMinute': WHATEVER THE INPUT: true; the input reads as it did. -/
def fnExactPassMinuteSpec : ChangeSpec := { name := "fnExactPassMinute", fn := fun _ => fun
  | [d1, d2] => { results := [.lit (.bool true)], args := [d1, d2] }
  | _ => none }
def fnExactPassMinuteRow : OpenClaim := { program := "ytjagdjbiljooiaa", sum := "3687c8627450f09a5c1cb160ffa7269011b4516fc6790236af35d8f37efe983e", func := "loop.example/g00889/laws.FnExactPassMinute", spec := "fnExactPassMinute", apart := false }
def FnExactPassMinuteSaid : Prop := fnExactPassMinuteRow.holds Try.pinned (OpenSpec.ofChange fnExactPassMinuteSpec)

/-- ITS FALSE NEIGHBOUR: 'it returns false'. Refute it at one input. -/
def fnExactPassMinuteWrong : ChangeSpec := { name := "fnExactPassMinute", fn := fun _ => fun
  | [d1, d2] => { results := [.lit (.bool false)], args := [d1, d2] }
  | _ => none }
def FnExactPassMinuteWrongFalsely : Prop := fnExactPassMinuteRow.holds Try.pinned (OpenSpec.ofChange fnExactPassMinuteWrong)

/- THE SECOND FORM. 'bulk': how many values and letters a reading holds, each counted each time it is reached (what is shared counts as often as it is met; a slice's spare places count too). A statement '..UptoSaid' is the law's where the arguments, and the package variables that the reading takes, are together of bulk at most 1048576: NARROWER than '..Said'. Prove '..Said' where nothing that the law and all that it calls make is longer than what came in: it says more and counts as full. Else prove '..UptoSaid'. A law counts once. -/
mutual
def uptoBulk {H : Type} : DataW H → Nat
  | .lit (.string bytes) => bytes.length + 1
  | .lit _ => 1
  | .nil => 1
  | .ptr d => uptoBulk d + 1
  | .slice elems spare => uptoBulkAll elems + uptoBulkAll spare + 1
  | .agg parts => uptoBulkAll parts + 1
  | .iface _ d => uptoBulk d + 1
  | .map entries => uptoBulkEntries entries + 1
  | .held _ => 1
def uptoBulkAll {H : Type} : List (DataW H) → Nat
  | [] => 0
  | d :: r => uptoBulk d + uptoBulkAll r
def uptoBulkEntries {H : Type} : List (Lit × DataW H) → Nat
  | [] => 0
  | x :: r => uptoBulkEntry x + uptoBulkEntries r
def uptoBulkEntry {H : Type} : Lit × DataW H → Nat
  | (.string bytes, d) => bytes.length + uptoBulk d + 1
  | (_, d) => uptoBulk d + 1
 end
def uptoSmall : (H : Type) → List (DataW H) → Bool := fun _ ds => decide (uptoBulkAll ds ≤ 1048576)
def OpenSpec.upto (s : _root_.Go.ChangeSpec) : _root_.Go.OpenSpec := { _root_.Go.OpenSpec.ofChange s with cond := some uptoSmall }

/-- 'laws.FnExactAddTables', WHERE WHAT IT READS IS OF BULK AT MOST 1048576: true; the input reads as it did. -/
def fnExactAddTablesUptoRow : OpenClaim := { program := "ytjagdjbiljooiaa", sum := "3687c8627450f09a5c1cb160ffa7269011b4516fc6790236af35d8f37efe983e", func := "loop.example/g00889/laws.FnExactAddTables", spec := "fnExactAddTables", apart := false, narrowed := true }
def FnExactAddTablesUptoSaid : Prop := fnExactAddTablesUptoRow.holds Try.pinned (OpenSpec.upto fnExactAddTablesSpec)

/-- 'laws.FnExactCompareTables', WHERE WHAT IT READS IS OF BULK AT MOST 1048576: true; the input reads as it did. -/
def fnExactCompareTablesUptoRow : OpenClaim := { program := "ytjagdjbiljooiaa", sum := "3687c8627450f09a5c1cb160ffa7269011b4516fc6790236af35d8f37efe983e", func := "loop.example/g00889/laws.FnExactCompareTables", spec := "fnExactCompareTables", apart := false, narrowed := true }
def FnExactCompareTablesUptoSaid : Prop := fnExactCompareTablesUptoRow.holds Try.pinned (OpenSpec.upto fnExactCompareTablesSpec)

/-- 'laws.FnExactGapsOf', WHERE WHAT IT READS IS OF BULK AT MOST 1048576: true; the input reads as it did. -/
def fnExactGapsOfUptoRow : OpenClaim := { program := "ytjagdjbiljooiaa", sum := "3687c8627450f09a5c1cb160ffa7269011b4516fc6790236af35d8f37efe983e", func := "loop.example/g00889/laws.FnExactGapsOf", spec := "fnExactGapsOf", apart := false, narrowed := true }
def FnExactGapsOfUptoSaid : Prop := fnExactGapsOfUptoRow.holds Try.pinned (OpenSpec.upto fnExactGapsOfSpec)

/-- 'laws.FnExactReliabilityTable', WHERE WHAT IT READS IS OF BULK AT MOST 1048576: true; the input reads as it did. -/
def fnExactReliabilityTableUptoRow : OpenClaim := { program := "ytjagdjbiljooiaa", sum := "3687c8627450f09a5c1cb160ffa7269011b4516fc6790236af35d8f37efe983e", func := "loop.example/g00889/laws.FnExactReliabilityTable", spec := "fnExactReliabilityTable", unfollowed := true, recurses := true, apart := false, narrowed := true }
def FnExactReliabilityTableUptoSaid : Prop := fnExactReliabilityTableUptoRow.holds Try.pinned (OpenSpec.upto fnExactReliabilityTableSpec)

/-- 'laws.FnExactTakeReceipt', WHERE WHAT IT READS IS OF BULK AT MOST 1048576: true; the input reads as it did. -/
def fnExactTakeReceiptUptoRow : OpenClaim := { program := "ytjagdjbiljooiaa", sum := "3687c8627450f09a5c1cb160ffa7269011b4516fc6790236af35d8f37efe983e", func := "loop.example/g00889/laws.FnExactTakeReceipt", spec := "fnExactTakeReceipt", unfollowed := true, recurses := true, apart := false, narrowed := true }
def FnExactTakeReceiptUptoSaid : Prop := fnExactTakeReceiptUptoRow.holds Try.pinned (OpenSpec.upto fnExactTakeReceiptSpec)

/-- 'laws.FnExactPruneQueue', WHERE WHAT IT READS IS OF BULK AT MOST 1048576: true; the input reads as it did. -/
def fnExactPruneQueueUptoRow : OpenClaim := { program := "ytjagdjbiljooiaa", sum := "3687c8627450f09a5c1cb160ffa7269011b4516fc6790236af35d8f37efe983e", func := "loop.example/g00889/laws.FnExactPruneQueue", spec := "fnExactPruneQueue", unfollowed := true, recurses := true, apart := false, narrowed := true }
def FnExactPruneQueueUptoSaid : Prop := fnExactPruneQueueUptoRow.holds Try.pinned (OpenSpec.upto fnExactPruneQueueSpec)

/-- 'laws.FnExactPassMinute', WHERE WHAT IT READS IS OF BULK AT MOST 1048576: true; the input reads as it did. -/
def fnExactPassMinuteUptoRow : OpenClaim := { program := "ytjagdjbiljooiaa", sum := "3687c8627450f09a5c1cb160ffa7269011b4516fc6790236af35d8f37efe983e", func := "loop.example/g00889/laws.FnExactPassMinute", spec := "fnExactPassMinute", apart := false, narrowed := true }
def FnExactPassMinuteUptoSaid : Prop := fnExactPassMinuteUptoRow.holds Try.pinned (OpenSpec.upto fnExactPassMinuteSpec)

end Rows
end Go.Proofs.Ytjagdjbiljooiaa
