/-
  No cell of these rows narrows 'for every input' (looked for: loops, veiled, ifaces, maps, wideKeys, modest, calm, conditions, laid).
  DERIVED. THE GIVEN ROWS OF THIS SEAT. 6 by the template 'for every input the law returns true; each argument reads behind the call as it read before'; 0 by the template 'total and deterministic' (their statements: YtfdjjkkhkojfgaaTotals.lean).
  GIVEN WITH THE SEED: the statements are not yours to turn. If you find one false, say at which input.
  Laid BY PROGRAM, IN A SANDBOX (cutbox-rows.mjs): the forced cells as the released guide's own fill.sh prints them over the translation c4014a6b93e1b061… (all of the seat's roots in one cut). By AI agents, Wed Nov 11 2026. No macro, syntax, notation, axiom, sorry.
-/
import Derived.Test.YtfdjjkkhkojfgaaChecked
import GoSem.Claim
import GoSem.ClaimJoined
import GoSem.ClaimMapViews
import Derived.JoinedTies
import Derived.KernelRfl
namespace Go.Proofs.Ytfdjjkkhkojfgaa
/- THE CELL 'sum', in the pinned program and in every row, IS THE sha256 OF THE DUMP (.gsa) THAT YtfdjjkkhkojfgaaProg.lean LOADS. Nothing in Lean hashes anything: it is a label: what it is worth is what the hold of that sum in a sandbox is worth. -/
noncomputable def Try.pinned : Pinned := { name := "ytfdjjkkhkojfgaa", sum := "c4014a6b93e1b06140f48ec872e7a0c1ca55595603e86a0f203006c7be21e53d", checked := Try.checked }
namespace Rows
def none {H : Type} : Left H := { results := [], args := [] }

/-- 'laws.FnExactEditedRegion': WHATEVER THE INPUT: true; the input reads as it did. -/
def fnExactEditedRegionSpec : ChangeSpec := { name := "fnExactEditedRegion", fn := fun _ => fun
  | [d1, d2] => { results := [.lit (.bool true)], args := [d1, d2] }
  | _ => none }
def fnExactEditedRegionRow : OpenClaim := { program := "ytfdjjkkhkojfgaa", sum := "c4014a6b93e1b06140f48ec872e7a0c1ca55595603e86a0f203006c7be21e53d", func := "loop.example/g00889/laws.FnExactEditedRegion", spec := "fnExactEditedRegion", unfollowed := true, recurses := true, apart := false }
def FnExactEditedRegionSaid : Prop := fnExactEditedRegionRow.holds Try.pinned (OpenSpec.ofChange fnExactEditedRegionSpec)

/-- ITS FALSE NEIGHBOUR: 'it returns false'. Refute it at one input. -/
def fnExactEditedRegionWrong : ChangeSpec := { name := "fnExactEditedRegion", fn := fun _ => fun
  | [d1, d2] => { results := [.lit (.bool false)], args := [d1, d2] }
  | _ => none }
def FnExactEditedRegionWrongFalsely : Prop := fnExactEditedRegionRow.holds Try.pinned (OpenSpec.ofChange fnExactEditedRegionWrong)

/-- 'laws.FnExactSteepestSlope': WHATEVER THE INPUT: true; the input reads as it did. -/
def fnExactSteepestSlopeSpec : ChangeSpec := { name := "fnExactSteepestSlope", fn := fun _ => fun
  | [d] => { results := [.lit (.bool true)], args := [d] }
  | _ => none }
def fnExactSteepestSlopeRow : OpenClaim := { program := "ytfdjjkkhkojfgaa", sum := "c4014a6b93e1b06140f48ec872e7a0c1ca55595603e86a0f203006c7be21e53d", func := "loop.example/g00889/laws.FnExactSteepestSlope", spec := "fnExactSteepestSlope", unfollowed := true, recurses := true, apart := false }
def FnExactSteepestSlopeSaid : Prop := fnExactSteepestSlopeRow.holds Try.pinned (OpenSpec.ofChange fnExactSteepestSlopeSpec)

/-- ITS FALSE NEIGHBOUR: 'it returns false'. Refute it at one input. -/
def fnExactSteepestSlopeWrong : ChangeSpec := { name := "fnExactSteepestSlope", fn := fun _ => fun
  | [d] => { results := [.lit (.bool false)], args := [d] }
  | _ => none }
def FnExactSteepestSlopeWrongFalsely : Prop := fnExactSteepestSlopeRow.holds Try.pinned (OpenSpec.ofChange fnExactSteepestSlopeWrong)

/-- 'laws.FnExactKeepsSlope': WHATEVER THE INPUT: true; the input reads as it did. -/
def fnExactKeepsSlopeSpec : ChangeSpec := { name := "fnExactKeepsSlope", fn := fun _ => fun
  | [d1, d2] => { results := [.lit (.bool true)], args := [d1, d2] }
  | _ => none }
def fnExactKeepsSlopeRow : OpenClaim := { program := "ytfdjjkkhkojfgaa", sum := "c4014a6b93e1b06140f48ec872e7a0c1ca55595603e86a0f203006c7be21e53d", func := "loop.example/g00889/laws.FnExactKeepsSlope", spec := "fnExactKeepsSlope", unfollowed := true, recurses := true, apart := false }
def FnExactKeepsSlopeSaid : Prop := fnExactKeepsSlopeRow.holds Try.pinned (OpenSpec.ofChange fnExactKeepsSlopeSpec)

/-- ITS FALSE NEIGHBOUR: 'it returns false'. Refute it at one input. -/
def fnExactKeepsSlopeWrong : ChangeSpec := { name := "fnExactKeepsSlope", fn := fun _ => fun
  | [d1, d2] => { results := [.lit (.bool false)], args := [d1, d2] }
  | _ => none }
def FnExactKeepsSlopeWrongFalsely : Prop := fnExactKeepsSlopeRow.holds Try.pinned (OpenSpec.ofChange fnExactKeepsSlopeWrong)

/-- 'laws.FnExactCountTable': WHATEVER THE INPUT: true; the input reads as it did. -/
def fnExactCountTableSpec : ChangeSpec := { name := "fnExactCountTable", fn := fun _ => fun
  | [d1, d2, d3] => { results := [.lit (.bool true)], args := [d1, d2, d3] }
  | _ => none }
def fnExactCountTableRow : OpenClaim := { program := "ytfdjjkkhkojfgaa", sum := "c4014a6b93e1b06140f48ec872e7a0c1ca55595603e86a0f203006c7be21e53d", func := "loop.example/g00889/laws.FnExactCountTable", spec := "fnExactCountTable", unfollowed := true, recurses := true, apart := false }
def FnExactCountTableSaid : Prop := fnExactCountTableRow.holds Try.pinned (OpenSpec.ofChange fnExactCountTableSpec)

/-- ITS FALSE NEIGHBOUR: 'it returns false'. Refute it at one input. -/
def fnExactCountTableWrong : ChangeSpec := { name := "fnExactCountTable", fn := fun _ => fun
  | [d1, d2, d3] => { results := [.lit (.bool false)], args := [d1, d2, d3] }
  | _ => none }
def FnExactCountTableWrongFalsely : Prop := fnExactCountTableRow.holds Try.pinned (OpenSpec.ofChange fnExactCountTableWrong)

/-- 'laws.FnExactBestLimit': WHATEVER THE INPUT: true; the input reads as it did. -/
def fnExactBestLimitSpec : ChangeSpec := { name := "fnExactBestLimit", fn := fun _ => fun
  | [d1, d2, d3] => { results := [.lit (.bool true)], args := [d1, d2, d3] }
  | _ => none }
def fnExactBestLimitRow : OpenClaim := { program := "ytfdjjkkhkojfgaa", sum := "c4014a6b93e1b06140f48ec872e7a0c1ca55595603e86a0f203006c7be21e53d", func := "loop.example/g00889/laws.FnExactBestLimit", spec := "fnExactBestLimit", unfollowed := true, recurses := true, apart := false }
def FnExactBestLimitSaid : Prop := fnExactBestLimitRow.holds Try.pinned (OpenSpec.ofChange fnExactBestLimitSpec)

/-- ITS FALSE NEIGHBOUR: 'it returns false'. Refute it at one input. -/
def fnExactBestLimitWrong : ChangeSpec := { name := "fnExactBestLimit", fn := fun _ => fun
  | [d1, d2, d3] => { results := [.lit (.bool false)], args := [d1, d2, d3] }
  | _ => none }
def FnExactBestLimitWrongFalsely : Prop := fnExactBestLimitRow.holds Try.pinned (OpenSpec.ofChange fnExactBestLimitWrong)

/-- 'laws.FnExactAddDelivery': WHATEVER THE INPUT: true; the input reads as it did. -/
def fnExactAddDeliverySpec : ChangeSpec := { name := "fnExactAddDelivery", fn := fun _ => fun
  | [d1, d2, d3] => { results := [.lit (.bool true)], args := [d1, d2, d3] }
  | _ => none }
def fnExactAddDeliveryRow : OpenClaim := { program := "ytfdjjkkhkojfgaa", sum := "c4014a6b93e1b06140f48ec872e7a0c1ca55595603e86a0f203006c7be21e53d", func := "loop.example/g00889/laws.FnExactAddDelivery", spec := "fnExactAddDelivery", unfollowed := true, recurses := true, apart := false }
def FnExactAddDeliverySaid : Prop := fnExactAddDeliveryRow.holds Try.pinned (OpenSpec.ofChange fnExactAddDeliverySpec)

/-- ITS FALSE NEIGHBOUR: 'it returns false'. Refute it at one input. -/
def fnExactAddDeliveryWrong : ChangeSpec := { name := "fnExactAddDelivery", fn := fun _ => fun
  | [d1, d2, d3] => { results := [.lit (.bool false)], args := [d1, d2, d3] }
  | _ => none }
def FnExactAddDeliveryWrongFalsely : Prop := fnExactAddDeliveryRow.holds Try.pinned (OpenSpec.ofChange fnExactAddDeliveryWrong)

/- THE SECOND FORM. 'bulk': how many values and letters a reading holds, each counted each time it is reached (what is shared counts as often as it is met; a slice's spare places count too). A statement '..UptoSaid' is the law's where the arguments, and the package variables that the reading takes, are together of bulk at most 1048576: NARROWER than '..Said'. Prove '..Said' where nothing that the law and all that it calls make is longer than what came in: it says more and counts as full. Else prove '..UptoSaid'. A law counts once. -/
mutual
def uptoBulk {H : Type} : DataW H → Nat
  | .lit (.string bytes) => bytes.length + 1
  | .lit _ => 1
  | .nil => 1
  | .ptr d => uptoBulk d + 1
  | .slice elems spare => uptoBulkAll elems + uptoBulkAll spare + 1
  | .agg parts => uptoBulkAll parts + 1
  | .iface _ d => uptoBulk d + 1
  | .map entries => uptoBulkEntries entries + 1
  | .held _ => 1
def uptoBulkAll {H : Type} : List (DataW H) → Nat
  | [] => 0
  | d :: r => uptoBulk d + uptoBulkAll r
def uptoBulkEntries {H : Type} : List (Lit × DataW H) → Nat
  | [] => 0
  | x :: r => uptoBulkEntry x + uptoBulkEntries r
def uptoBulkEntry {H : Type} : Lit × DataW H → Nat
  | (.string bytes, d) => bytes.length + uptoBulk d + 1
  | (_, d) => uptoBulk d + 1
 end
def uptoSmall : (H : Type) → List (DataW H) → Bool := fun _ ds => decide (uptoBulkAll ds ≤ 1048576)
def OpenSpec.upto (s : _root_.Go.ChangeSpec) : _root_.Go.OpenSpec := { _root_.Go.OpenSpec.ofChange s with cond := some uptoSmall }

/-- 'laws.FnExactEditedRegion', WHERE WHAT IT READS IS OF BULK AT MOST 1048576: true; the input reads as it did. -/
def fnExactEditedRegionUptoRow : OpenClaim := { program := "ytfdjjkkhkojfgaa", sum := "c4014a6b93e1b06140f48ec872e7a0c1ca55595603e86a0f203006c7be21e53d", func := "loop.example/g00889/laws.FnExactEditedRegion", spec := "fnExactEditedRegion", unfollowed := true, recurses := true, apart := false, narrowed := true }
def FnExactEditedRegionUptoSaid : Prop := fnExactEditedRegionUptoRow.holds Try.pinned (OpenSpec.upto fnExactEditedRegionSpec)

/-- 'laws.FnExactSteepestSlope', WHERE WHAT IT READS IS OF BULK AT MOST 1048576: true; the input reads as it did. -/
def fnExactSteepestSlopeUptoRow : OpenClaim := { program := "ytfdjjkkhkojfgaa", sum := "c4014a6b93e1b06140f48ec872e7a0c1ca55595603e86a0f203006c7be21e53d", func := "loop.example/g00889/laws.FnExactSteepestSlope", spec := "fnExactSteepestSlope", unfollowed := true, recurses := true, apart := false, narrowed := true }
def FnExactSteepestSlopeUptoSaid : Prop := fnExactSteepestSlopeUptoRow.holds Try.pinned (OpenSpec.upto fnExactSteepestSlopeSpec)

/-- 'laws.FnExactKeepsSlope', WHERE WHAT IT READS IS OF BULK AT MOST 1048576: true; the input reads as it did. -/
def fnExactKeepsSlopeUptoRow : OpenClaim := { program := "ytfdjjkkhkojfgaa", sum := "c4014a6b93e1b06140f48ec872e7a0c1ca55595603e86a0f203006c7be21e53d", func := "loop.example/g00889/laws.FnExactKeepsSlope", spec := "fnExactKeepsSlope", unfollowed := true, recurses := true, apart := false, narrowed := true }
def FnExactKeepsSlopeUptoSaid : Prop := fnExactKeepsSlopeUptoRow.holds Try.pinned (OpenSpec.upto fnExactKeepsSlopeSpec)

/-- 'laws.FnExactCountTable', WHERE WHAT IT READS IS OF BULK AT MOST 1048576: true; the input reads as it did. -/
def fnExactCountTableUptoRow : OpenClaim := { program := "ytfdjjkkhkojfgaa", sum := "c4014a6b93e1b06140f48ec872e7a0c1ca55595603e86a0f203006c7be21e53d", func := "loop.example/g00889/laws.FnExactCountTable", spec := "fnExactCountTable", unfollowed := true, recurses := true, apart := false, narrowed := true }
def FnExactCountTableUptoSaid : Prop := fnExactCountTableUptoRow.holds Try.pinned (OpenSpec.upto fnExactCountTableSpec)

/-- 'laws.FnExactBestLimit', WHERE WHAT IT READS IS OF BULK AT MOST 1048576: true; the input reads as it did. -/
def fnExactBestLimitUptoRow : OpenClaim := { program := "ytfdjjkkhkojfgaa", sum := "c4014a6b93e1b06140f48ec872e7a0c1ca55595603e86a0f203006c7be21e53d", func := "loop.example/g00889/laws.FnExactBestLimit", spec := "fnExactBestLimit", unfollowed := true, recurses := true, apart := false, narrowed := true }
def FnExactBestLimitUptoSaid : Prop := fnExactBestLimitUptoRow.holds Try.pinned (OpenSpec.upto fnExactBestLimitSpec)

/-- 'laws.FnExactAddDelivery', WHERE WHAT IT READS IS OF BULK AT MOST 1048576: true; the input reads as it did. -/
def fnExactAddDeliveryUptoRow : OpenClaim := { program := "ytfdjjkkhkojfgaa", sum := "c4014a6b93e1b06140f48ec872e7a0c1ca55595603e86a0f203006c7be21e53d", func := "loop.example/g00889/laws.FnExactAddDelivery", spec := "fnExactAddDelivery", unfollowed := true, recurses := true, apart := false, narrowed := true }
def FnExactAddDeliveryUptoSaid : Prop := fnExactAddDeliveryUptoRow.holds Try.pinned (OpenSpec.upto fnExactAddDeliverySpec)

end Rows
end Go.Proofs.Ytfdjjkkhkojfgaa
