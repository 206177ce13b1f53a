/-
  No cell of these rows narrows 'for every input' (looked for: loops, veiled, ifaces, maps, wideKeys, modest, calm, conditions, laid).
  DERIVED. THE GIVEN ROWS OF THIS SEAT. 4 by the template 'for every input the law returns true; each argument reads behind the call as it read before'; 0 by the template 'total and deterministic' (their statements: YtppjagpjlcbhpaaTotals.lean).
  GIVEN WITH THE SEED: the statements are not yours to turn. If you find one false, say at which input.
  Laid BY PROGRAM, IN A SANDBOX (cutbox-rows.mjs): the forced cells as the released guide's own fill.sh prints them over the translation f4f91f0bb929fd52… (all of the seat's roots in one cut). By AI agents, Wed Nov 11 2026. No macro, syntax, notation, axiom, sorry.
-/
import Derived.Test.YtppjagpjlcbhpaaChecked
import GoSem.Claim
import GoSem.ClaimJoined
import GoSem.ClaimMapViews
import Derived.JoinedTies
import Derived.KernelRfl
namespace Go.Proofs.Ytppjagpjlcbhpaa
/- THE CELL 'sum', in the pinned program and in every row, IS THE sha256 OF THE DUMP (.gsa) THAT YtppjagpjlcbhpaaProg.lean LOADS. Nothing in Lean hashes anything: it is a label: what it is worth is what the hold of that sum in a sandbox is worth. -/
noncomputable def Try.pinned : Pinned := { name := "ytppjagpjlcbhpaa", sum := "f4f91f0bb929fd52d23d0e51aff989e219e6e77fe8f3e5b40d1ed68c8a6f6cdb", checked := Try.checked }
namespace Rows
def none {H : Type} : Left H := { results := [], args := [] }

/-- 'laws.FnExactGapsOf': WHATEVER THE INPUT: true; the input reads as it did. -/
def fnExactGapsOfSpec : ChangeSpec := { name := "fnExactGapsOf", fn := fun _ => fun
  | [d] => { results := [.lit (.bool true)], args := [d] }
  | _ => none }
def fnExactGapsOfRow : OpenClaim := { program := "ytppjagpjlcbhpaa", sum := "f4f91f0bb929fd52d23d0e51aff989e219e6e77fe8f3e5b40d1ed68c8a6f6cdb", func := "loop.example/g00889/laws.FnExactGapsOf", spec := "fnExactGapsOf", apart := false }
def FnExactGapsOfSaid : Prop := fnExactGapsOfRow.holds Try.pinned (OpenSpec.ofChange fnExactGapsOfSpec)

/-- ITS FALSE NEIGHBOUR: 'it returns false'. Refute it at one input. -/
def fnExactGapsOfWrong : ChangeSpec := { name := "fnExactGapsOf", fn := fun _ => fun
  | [d] => { results := [.lit (.bool false)], args := [d] }
  | _ => none }
def FnExactGapsOfWrongFalsely : Prop := fnExactGapsOfRow.holds Try.pinned (OpenSpec.ofChange fnExactGapsOfWrong)

/-- 'laws.FnExactReliabilityTable': WHATEVER THE INPUT: true; the input reads as it did. -/
def fnExactReliabilityTableSpec : ChangeSpec := { name := "fnExactReliabilityTable", fn := fun _ => fun
  | [d] => { results := [.lit (.bool true)], args := [d] }
  | _ => none }
def fnExactReliabilityTableRow : OpenClaim := { program := "ytppjagpjlcbhpaa", sum := "f4f91f0bb929fd52d23d0e51aff989e219e6e77fe8f3e5b40d1ed68c8a6f6cdb", func := "loop.example/g00889/laws.FnExactReliabilityTable", spec := "fnExactReliabilityTable", unfollowed := true, recurses := true, apart := false }
def FnExactReliabilityTableSaid : Prop := fnExactReliabilityTableRow.holds Try.pinned (OpenSpec.ofChange fnExactReliabilityTableSpec)

/-- ITS FALSE NEIGHBOUR: 'it returns false'. Refute it at one input. -/
def fnExactReliabilityTableWrong : ChangeSpec := { name := "fnExactReliabilityTable", fn := fun _ => fun
  | [d] => { results := [.lit (.bool false)], args := [d] }
  | _ => none }
def FnExactReliabilityTableWrongFalsely : Prop := fnExactReliabilityTableRow.holds Try.pinned (OpenSpec.ofChange fnExactReliabilityTableWrong)

/-- 'laws.FnExactAddDelivery': WHATEVER THE INPUT: true; the input reads as it did. -/
def fnExactAddDeliverySpec : ChangeSpec := { name := "fnExactAddDelivery", fn := fun _ => fun
  | [d1, d2, d3] => { results := [.lit (.bool true)], args := [d1, d2, d3] }
  | _ => none }
def fnExactAddDeliveryRow : OpenClaim := { program := "ytppjagpjlcbhpaa", sum := "f4f91f0bb929fd52d23d0e51aff989e219e6e77fe8f3e5b40d1ed68c8a6f6cdb", func := "loop.example/g00889/laws.FnExactAddDelivery", spec := "fnExactAddDelivery", unfollowed := true, recurses := true, apart := false }
def FnExactAddDeliverySaid : Prop := fnExactAddDeliveryRow.holds Try.pinned (OpenSpec.ofChange fnExactAddDeliverySpec)

/-- ITS FALSE NEIGHBOUR: 'it returns false'. Refute it at one input. -/
def fnExactAddDeliveryWrong : ChangeSpec := { name := "fnExactAddDelivery", fn := fun _ => fun
  | [d1, d2, d3] => { results := [.lit (.bool false)], args := [d1, d2, d3] }
  | _ => none }
def FnExactAddDeliveryWrongFalsely : Prop := fnExactAddDeliveryRow.holds Try.pinned (OpenSpec.ofChange fnExactAddDeliveryWrong)

/-- 'laws.FnExactBestLimit': WHATEVER THE INPUT: true; the input reads as it did. -/
def fnExactBestLimitSpec : ChangeSpec := { name := "fnExactBestLimit", fn := fun _ => fun
  | [d1, d2, d3] => { results := [.lit (.bool true)], args := [d1, d2, d3] }
  | _ => none }
def fnExactBestLimitRow : OpenClaim := { program := "ytppjagpjlcbhpaa", sum := "f4f91f0bb929fd52d23d0e51aff989e219e6e77fe8f3e5b40d1ed68c8a6f6cdb", func := "loop.example/g00889/laws.FnExactBestLimit", spec := "fnExactBestLimit", unfollowed := true, recurses := true, apart := false }
def FnExactBestLimitSaid : Prop := fnExactBestLimitRow.holds Try.pinned (OpenSpec.ofChange fnExactBestLimitSpec)

/-- ITS FALSE NEIGHBOUR: 'it returns false'. Refute it at one input. -/
def fnExactBestLimitWrong : ChangeSpec := { name := "fnExactBestLimit", fn := fun _ => fun
  | [d1, d2, d3] => { results := [.lit (.bool false)], args := [d1, d2, d3] }
  | _ => none }
def FnExactBestLimitWrongFalsely : Prop := fnExactBestLimitRow.holds Try.pinned (OpenSpec.ofChange fnExactBestLimitWrong)

/- THE SECOND FORM. 'bulk': how many values and letters a reading holds, each counted each time it is reached (what is shared counts as often as it is met; a slice's spare places count too). A statement '..UptoSaid' is the law's where the arguments, and the package variables that the reading takes, are together of bulk at most 1048576: NARROWER than '..Said'. Prove '..Said' where nothing that the law and all that it calls make is longer than what came in: it says more and counts as full. Else prove '..UptoSaid'. A law counts once. -/
mutual
def uptoBulk {H : Type} : DataW H → Nat
  | .lit (.string bytes) => bytes.length + 1
  | .lit _ => 1
  | .nil => 1
  | .ptr d => uptoBulk d + 1
  | .slice elems spare => uptoBulkAll elems + uptoBulkAll spare + 1
  | .agg parts => uptoBulkAll parts + 1
  | .iface _ d => uptoBulk d + 1
  | .map entries => uptoBulkEntries entries + 1
  | .held _ => 1
def uptoBulkAll {H : Type} : List (DataW H) → Nat
  | [] => 0
  | d :: r => uptoBulk d + uptoBulkAll r
def uptoBulkEntries {H : Type} : List (Lit × DataW H) → Nat
  | [] => 0
  | x :: r => uptoBulkEntry x + uptoBulkEntries r
def uptoBulkEntry {H : Type} : Lit × DataW H → Nat
  | (.string bytes, d) => bytes.length + uptoBulk d + 1
  | (_, d) => uptoBulk d + 1
 end
def uptoSmall : (H : Type) → List (DataW H) → Bool := fun _ ds => decide (uptoBulkAll ds ≤ 1048576)
def OpenSpec.upto (s : _root_.Go.ChangeSpec) : _root_.Go.OpenSpec := { _root_.Go.OpenSpec.ofChange s with cond := some uptoSmall }

/-- 'laws.FnExactGapsOf', WHERE WHAT IT READS IS OF BULK AT MOST 1048576: true; the input reads as it did. -/
def fnExactGapsOfUptoRow : OpenClaim := { program := "ytppjagpjlcbhpaa", sum := "f4f91f0bb929fd52d23d0e51aff989e219e6e77fe8f3e5b40d1ed68c8a6f6cdb", func := "loop.example/g00889/laws.FnExactGapsOf", spec := "fnExactGapsOf", apart := false, narrowed := true }
def FnExactGapsOfUptoSaid : Prop := fnExactGapsOfUptoRow.holds Try.pinned (OpenSpec.upto fnExactGapsOfSpec)

/-- 'laws.FnExactReliabilityTable', WHERE WHAT IT READS IS OF BULK AT MOST 1048576: true; the input reads as it did. -/
def fnExactReliabilityTableUptoRow : OpenClaim := { program := "ytppjagpjlcbhpaa", sum := "f4f91f0bb929fd52d23d0e51aff989e219e6e77fe8f3e5b40d1ed68c8a6f6cdb", func := "loop.example/g00889/laws.FnExactReliabilityTable", spec := "fnExactReliabilityTable", unfollowed := true, recurses := true, apart := false, narrowed := true }
def FnExactReliabilityTableUptoSaid : Prop := fnExactReliabilityTableUptoRow.holds Try.pinned (OpenSpec.upto fnExactReliabilityTableSpec)

/-- 'laws.FnExactAddDelivery', WHERE WHAT IT READS IS OF BULK AT MOST 1048576: true; the input reads as it did. -/
def fnExactAddDeliveryUptoRow : OpenClaim := { program := "ytppjagpjlcbhpaa", sum := "f4f91f0bb929fd52d23d0e51aff989e219e6e77fe8f3e5b40d1ed68c8a6f6cdb", func := "loop.example/g00889/laws.FnExactAddDelivery", spec := "fnExactAddDelivery", unfollowed := true, recurses := true, apart := false, narrowed := true }
def FnExactAddDeliveryUptoSaid : Prop := fnExactAddDeliveryUptoRow.holds Try.pinned (OpenSpec.upto fnExactAddDeliverySpec)

/-- 'laws.FnExactBestLimit', WHERE WHAT IT READS IS OF BULK AT MOST 1048576: true; the input reads as it did. -/
def fnExactBestLimitUptoRow : OpenClaim := { program := "ytppjagpjlcbhpaa", sum := "f4f91f0bb929fd52d23d0e51aff989e219e6e77fe8f3e5b40d1ed68c8a6f6cdb", func := "loop.example/g00889/laws.FnExactBestLimit", spec := "fnExactBestLimit", unfollowed := true, recurses := true, apart := false, narrowed := true }
def FnExactBestLimitUptoSaid : Prop := fnExactBestLimitUptoRow.holds Try.pinned (OpenSpec.upto fnExactBestLimitSpec)

end Rows
end Go.Proofs.Ytppjagpjlcbhpaa
