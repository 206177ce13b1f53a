/-
  No cell of these rows narrows 'for every input' (looked for: loops, veiled, ifaces, maps, wideKeys, modest, calm, conditions, laid).
  DERIVED. THE GIVEN ROWS OF THIS SEAT. 4 by the template 'for every input the law returns true; each argument reads behind the call as it read before'; 0 by the template 'total and deterministic' (their statements: YtkegkbpadhddkaaTotals.lean).
  GIVEN WITH THE SEED: the statements are not yours to turn. If you find one false, say at which input.
  Laid BY PROGRAM, IN A SANDBOX (cutbox-rows.mjs): the forced cells as the released guide's own fill.sh prints them over the translation c17e8d04e8db64d0… (all of the seat's roots in one cut). By AI agents, Wed Nov 11 2026. No macro, syntax, notation, axiom, sorry.
-/
import Derived.Test.YtkegkbpadhddkaaChecked
import GoSem.Claim
import GoSem.ClaimJoined
import GoSem.ClaimMapViews
import Derived.JoinedTies
import Derived.KernelRfl
namespace Go.Proofs.Ytkegkbpadhddkaa
/- THE CELL 'sum', in the pinned program and in every row, IS THE sha256 OF THE DUMP (.gsa) THAT YtkegkbpadhddkaaProg.lean LOADS. Nothing in Lean hashes anything: it is a label: what it is worth is what the hold of that sum in a sandbox is worth. -/
noncomputable def Try.pinned : Pinned := { name := "ytkegkbpadhddkaa", sum := "c17e8d04e8db64d06b6140b77b3892e35284884b27a25c1721c02b0e2f8a17dd", checked := Try.checked }
namespace Rows
def none {H : Type} : Left H := { results := [], args := [] }

/-- 'laws.FnTwoCourses': WHATEVER THE INPUT: true; the input reads as it did. -/
def fnTwoCoursesSpec : ChangeSpec := { name := "fnTwoCourses", fn := fun _ => fun
  | [d] => { results := [.lit (.bool true)], args := [d] }
  | _ => none }
def fnTwoCoursesRow : OpenClaim := { program := "ytkegkbpadhddkaa", sum := "c17e8d04e8db64d06b6140b77b3892e35284884b27a25c1721c02b0e2f8a17dd", func := "loop.example/g00889/laws.FnTwoCourses", spec := "fnTwoCourses", unfollowed := true, recurses := true, apart := false }
def FnTwoCoursesSaid : Prop := fnTwoCoursesRow.holds Try.pinned (OpenSpec.ofChange fnTwoCoursesSpec)

/-- ITS FALSE NEIGHBOUR: 'it returns false'. Refute it at one input. -/
def fnTwoCoursesWrong : ChangeSpec := { name := "fnTwoCourses", fn := fun _ => fun
  | [d] => { results := [.lit (.bool false)], args := [d] }
  | _ => none }
def FnTwoCoursesWrongFalsely : Prop := fnTwoCoursesRow.holds Try.pinned (OpenSpec.ofChange fnTwoCoursesWrong)

/-- 'laws.FnCourses': WHATEVER THE INPUT: true; the input reads as it did. -/
def fnCoursesSpec : ChangeSpec := { name := "fnCourses", fn := fun _ => fun
  | [d] => { results := [.lit (.bool true)], args := [d] }
  | _ => none }
def fnCoursesRow : OpenClaim := { program := "ytkegkbpadhddkaa", sum := "c17e8d04e8db64d06b6140b77b3892e35284884b27a25c1721c02b0e2f8a17dd", func := "loop.example/g00889/laws.FnCourses", spec := "fnCourses", apart := false }
def FnCoursesSaid : Prop := fnCoursesRow.holds Try.pinned (OpenSpec.ofChange fnCoursesSpec)

/-- ITS FALSE NEIGHBOUR: 'it returns false'. Refute it at one input. -/
def fnCoursesWrong : ChangeSpec := { name := "fnCourses", fn := fun _ => fun
  | [d] => { results := [.lit (.bool false)], args := [d] }
  | _ => none }
def FnCoursesWrongFalsely : Prop := fnCoursesRow.holds Try.pinned (OpenSpec.ofChange fnCoursesWrong)

/-- 'laws.FnRetries': WHATEVER THE INPUT: true; the input reads as it did. -/
def fnRetriesSpec : ChangeSpec := { name := "fnRetries", fn := fun _ => fun
  | [d] => { results := [.lit (.bool true)], args := [d] }
  | _ => none }
def fnRetriesRow : OpenClaim := { program := "ytkegkbpadhddkaa", sum := "c17e8d04e8db64d06b6140b77b3892e35284884b27a25c1721c02b0e2f8a17dd", func := "loop.example/g00889/laws.FnRetries", spec := "fnRetries", unfollowed := true, recurses := true, apart := false }
def FnRetriesSaid : Prop := fnRetriesRow.holds Try.pinned (OpenSpec.ofChange fnRetriesSpec)

/-- ITS FALSE NEIGHBOUR: 'it returns false'. Refute it at one input. -/
def fnRetriesWrong : ChangeSpec := { name := "fnRetries", fn := fun _ => fun
  | [d] => { results := [.lit (.bool false)], args := [d] }
  | _ => none }
def FnRetriesWrongFalsely : Prop := fnRetriesRow.holds Try.pinned (OpenSpec.ofChange fnRetriesWrong)

/-- 'laws.FnDeliveries': WHATEVER THE INPUT: true; the input reads as it did. -/
def fnDeliveriesSpec : ChangeSpec := { name := "fnDeliveries", fn := fun _ => fun
  | [d] => { results := [.lit (.bool true)], args := [d] }
  | _ => none }
def fnDeliveriesRow : OpenClaim := { program := "ytkegkbpadhddkaa", sum := "c17e8d04e8db64d06b6140b77b3892e35284884b27a25c1721c02b0e2f8a17dd", func := "loop.example/g00889/laws.FnDeliveries", spec := "fnDeliveries", unfollowed := true, recurses := true, apart := false }
def FnDeliveriesSaid : Prop := fnDeliveriesRow.holds Try.pinned (OpenSpec.ofChange fnDeliveriesSpec)

/-- ITS FALSE NEIGHBOUR: 'it returns false'. Refute it at one input. -/
def fnDeliveriesWrong : ChangeSpec := { name := "fnDeliveries", fn := fun _ => fun
  | [d] => { results := [.lit (.bool false)], args := [d] }
  | _ => none }
def FnDeliveriesWrongFalsely : Prop := fnDeliveriesRow.holds Try.pinned (OpenSpec.ofChange fnDeliveriesWrong)

/- THE SECOND FORM. 'bulk': how many values and letters a reading holds, each counted each time it is reached (what is shared counts as often as it is met; a slice's spare places count too). A statement '..UptoSaid' is the law's where the arguments, and the package variables that the reading takes, are together of bulk at most 1048576: NARROWER than '..Said'. Prove '..Said' where nothing that the law and all that it calls make is longer than what came in: it says more and counts as full. Else prove '..UptoSaid'. A law counts once. -/
mutual
def uptoBulk {H : Type} : DataW H → Nat
  | .lit (.string bytes) => bytes.length + 1
  | .lit _ => 1
  | .nil => 1
  | .ptr d => uptoBulk d + 1
  | .slice elems spare => uptoBulkAll elems + uptoBulkAll spare + 1
  | .agg parts => uptoBulkAll parts + 1
  | .iface _ d => uptoBulk d + 1
  | .map entries => uptoBulkEntries entries + 1
  | .held _ => 1
def uptoBulkAll {H : Type} : List (DataW H) → Nat
  | [] => 0
  | d :: r => uptoBulk d + uptoBulkAll r
def uptoBulkEntries {H : Type} : List (Lit × DataW H) → Nat
  | [] => 0
  | x :: r => uptoBulkEntry x + uptoBulkEntries r
def uptoBulkEntry {H : Type} : Lit × DataW H → Nat
  | (.string bytes, d) => bytes.length + uptoBulk d + 1
  | (_, d) => uptoBulk d + 1
 end
def uptoSmall : (H : Type) → List (DataW H) → Bool := fun _ ds => decide (uptoBulkAll ds ≤ 1048576)
def OpenSpec.upto (s : _root_.Go.ChangeSpec) : _root_.Go.OpenSpec := { _root_.Go.OpenSpec.ofChange s with cond := some uptoSmall }

/-- 'laws.FnTwoCourses', WHERE WHAT IT READS IS OF BULK AT MOST 1048576: true; the input reads as it did. -/
def fnTwoCoursesUptoRow : OpenClaim := { program := "ytkegkbpadhddkaa", sum := "c17e8d04e8db64d06b6140b77b3892e35284884b27a25c1721c02b0e2f8a17dd", func := "loop.example/g00889/laws.FnTwoCourses", spec := "fnTwoCourses", unfollowed := true, recurses := true, apart := false, narrowed := true }
def FnTwoCoursesUptoSaid : Prop := fnTwoCoursesUptoRow.holds Try.pinned (OpenSpec.upto fnTwoCoursesSpec)

/-- 'laws.FnCourses', WHERE WHAT IT READS IS OF BULK AT MOST 1048576: true; the input reads as it did. -/
def fnCoursesUptoRow : OpenClaim := { program := "ytkegkbpadhddkaa", sum := "c17e8d04e8db64d06b6140b77b3892e35284884b27a25c1721c02b0e2f8a17dd", func := "loop.example/g00889/laws.FnCourses", spec := "fnCourses", apart := false, narrowed := true }
def FnCoursesUptoSaid : Prop := fnCoursesUptoRow.holds Try.pinned (OpenSpec.upto fnCoursesSpec)

/-- 'laws.FnRetries', WHERE WHAT IT READS IS OF BULK AT MOST 1048576: true; the input reads as it did. -/
def fnRetriesUptoRow : OpenClaim := { program := "ytkegkbpadhddkaa", sum := "c17e8d04e8db64d06b6140b77b3892e35284884b27a25c1721c02b0e2f8a17dd", func := "loop.example/g00889/laws.FnRetries", spec := "fnRetries", unfollowed := true, recurses := true, apart := false, narrowed := true }
def FnRetriesUptoSaid : Prop := fnRetriesUptoRow.holds Try.pinned (OpenSpec.upto fnRetriesSpec)

/-- 'laws.FnDeliveries', WHERE WHAT IT READS IS OF BULK AT MOST 1048576: true; the input reads as it did. -/
def fnDeliveriesUptoRow : OpenClaim := { program := "ytkegkbpadhddkaa", sum := "c17e8d04e8db64d06b6140b77b3892e35284884b27a25c1721c02b0e2f8a17dd", func := "loop.example/g00889/laws.FnDeliveries", spec := "fnDeliveries", unfollowed := true, recurses := true, apart := false, narrowed := true }
def FnDeliveriesUptoSaid : Prop := fnDeliveriesUptoRow.holds Try.pinned (OpenSpec.upto fnDeliveriesSpec)

end Rows
end Go.Proofs.Ytkegkbpadhddkaa
