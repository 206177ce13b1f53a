/-
  No cell of these rows narrows 'for every input' (looked for: loops, veiled, ifaces, maps, wideKeys, modest, calm, conditions, laid).
  DERIVED. THE GIVEN ROWS OF THIS SEAT. 10 by the template 'for every input the law returns true; each argument reads behind the call as it read before'; 0 by the template 'total and deterministic' (their statements: YtlhajgbhplnieaaTotals.lean).
  GIVEN WITH THE SEED: the statements are not yours to turn. If you find one false, say at which input.
  Laid BY PROGRAM, IN A SANDBOX (cutbox-rows.mjs): the forced cells as the released guide's own fill.sh prints them over the translation 9fe5bc14523d872d… (all of the seat's roots in one cut). By AI agents, Wed Nov 11 2026. No macro, syntax, notation, axiom, sorry.
-/
import Derived.Test.YtlhajgbhplnieaaChecked
import GoSem.Claim
import GoSem.ClaimJoined
import GoSem.ClaimMapViews
import Derived.JoinedTies
import Derived.KernelRfl
namespace Go.Proofs.Ytlhajgbhplnieaa
/- THE CELL 'sum', in the pinned program and in every row, IS THE sha256 OF THE DUMP (.gsa) THAT YtlhajgbhplnieaaProg.lean LOADS. Nothing in Lean hashes anything: it is a label: what it is worth is what the hold of that sum in a sandbox is worth. -/
noncomputable def Try.pinned : Pinned := { name := "ytlhajgbhplnieaa", sum := "9fe5bc14523d872df1ee90da0916ad9a17c71baaab43516a0ea4ee55c69da98c", checked := Try.checked }
namespace Rows
def none {H : Type} : Left H := { results := [], args := [] }

/-- 'laws.FnExactIsValidCourse': WHATEVER THE INPUT: true; the input reads as it did. -/
def fnExactIsValidCourseSpec : ChangeSpec := { name := "fnExactIsValidCourse", fn := fun _ => fun
  | [d] => { results := [.lit (.bool true)], args := [d] }
  | _ => none }
def fnExactIsValidCourseRow : OpenClaim := { program := "ytlhajgbhplnieaa", sum := "9fe5bc14523d872df1ee90da0916ad9a17c71baaab43516a0ea4ee55c69da98c", func := "loop.example/g00889/laws.FnExactIsValidCourse", spec := "fnExactIsValidCourse", apart := false }
def FnExactIsValidCourseSaid : Prop := fnExactIsValidCourseRow.holds Try.pinned (OpenSpec.ofChange fnExactIsValidCourseSpec)

/-- ITS FALSE NEIGHBOUR: 'it returns false'. Refute it at one input. -/
def fnExactIsValidCourseWrong : ChangeSpec := { name := "fnExactIsValidCourse", fn := fun _ => fun
  | [d] => { results := [.lit (.bool false)], args := [d] }
  | _ => none }
def FnExactIsValidCourseWrongFalsely : Prop := fnExactIsValidCourseRow.holds Try.pinned (OpenSpec.ofChange fnExactIsValidCourseWrong)

/-- 'laws.FnExactCourseLevel': WHATEVER THE INPUT: true; the input reads as it did. -/
def fnExactCourseLevelSpec : ChangeSpec := { name := "fnExactCourseLevel", fn := fun _ => fun
  | [d1, d2] => { results := [.lit (.bool true)], args := [d1, d2] }
  | _ => none }
def fnExactCourseLevelRow : OpenClaim := { program := "ytlhajgbhplnieaa", sum := "9fe5bc14523d872df1ee90da0916ad9a17c71baaab43516a0ea4ee55c69da98c", func := "loop.example/g00889/laws.FnExactCourseLevel", spec := "fnExactCourseLevel", apart := false }
def FnExactCourseLevelSaid : Prop := fnExactCourseLevelRow.holds Try.pinned (OpenSpec.ofChange fnExactCourseLevelSpec)

/-- ITS FALSE NEIGHBOUR: 'it returns false'. Refute it at one input. -/
def fnExactCourseLevelWrong : ChangeSpec := { name := "fnExactCourseLevel", fn := fun _ => fun
  | [d1, d2] => { results := [.lit (.bool false)], args := [d1, d2] }
  | _ => none }
def FnExactCourseLevelWrongFalsely : Prop := fnExactCourseLevelRow.holds Try.pinned (OpenSpec.ofChange fnExactCourseLevelWrong)

/-- 'laws.FnExactHoursAt': WHATEVER THE INPUT: true; the input reads as it did. -/
def fnExactHoursAtSpec : ChangeSpec := { name := "fnExactHoursAt", fn := fun _ => fun
  | [d1, d2] => { results := [.lit (.bool true)], args := [d1, d2] }
  | _ => none }
def fnExactHoursAtRow : OpenClaim := { program := "ytlhajgbhplnieaa", sum := "9fe5bc14523d872df1ee90da0916ad9a17c71baaab43516a0ea4ee55c69da98c", func := "loop.example/g00889/laws.FnExactHoursAt", spec := "fnExactHoursAt", apart := false }
def FnExactHoursAtSaid : Prop := fnExactHoursAtRow.holds Try.pinned (OpenSpec.ofChange fnExactHoursAtSpec)

/-- ITS FALSE NEIGHBOUR: 'it returns false'. Refute it at one input. -/
def fnExactHoursAtWrong : ChangeSpec := { name := "fnExactHoursAt", fn := fun _ => fun
  | [d1, d2] => { results := [.lit (.bool false)], args := [d1, d2] }
  | _ => none }
def FnExactHoursAtWrongFalsely : Prop := fnExactHoursAtRow.holds Try.pinned (OpenSpec.ofChange fnExactHoursAtWrong)

/-- 'laws.FnExactShiftCourse': WHATEVER THE INPUT: true; the input reads as it did. -/
def fnExactShiftCourseSpec : ChangeSpec := { name := "fnExactShiftCourse", fn := fun _ => fun
  | [d1, d2] => { results := [.lit (.bool true)], args := [d1, d2] }
  | _ => none }
def fnExactShiftCourseRow : OpenClaim := { program := "ytlhajgbhplnieaa", sum := "9fe5bc14523d872df1ee90da0916ad9a17c71baaab43516a0ea4ee55c69da98c", func := "loop.example/g00889/laws.FnExactShiftCourse", spec := "fnExactShiftCourse", apart := false }
def FnExactShiftCourseSaid : Prop := fnExactShiftCourseRow.holds Try.pinned (OpenSpec.ofChange fnExactShiftCourseSpec)

/-- ITS FALSE NEIGHBOUR: 'it returns false'. Refute it at one input. -/
def fnExactShiftCourseWrong : ChangeSpec := { name := "fnExactShiftCourse", fn := fun _ => fun
  | [d1, d2] => { results := [.lit (.bool false)], args := [d1, d2] }
  | _ => none }
def FnExactShiftCourseWrongFalsely : Prop := fnExactShiftCourseRow.holds Try.pinned (OpenSpec.ofChange fnExactShiftCourseWrong)

/-- 'laws.FnExactCourseOf': WHATEVER THE INPUT: true; the input reads as it did. -/
def fnExactCourseOfSpec : ChangeSpec := { name := "fnExactCourseOf", fn := fun _ => fun
  | [d] => { results := [.lit (.bool true)], args := [d] }
  | _ => none }
def fnExactCourseOfRow : OpenClaim := { program := "ytlhajgbhplnieaa", sum := "9fe5bc14523d872df1ee90da0916ad9a17c71baaab43516a0ea4ee55c69da98c", func := "loop.example/g00889/laws.FnExactCourseOf", spec := "fnExactCourseOf", apart := false }
def FnExactCourseOfSaid : Prop := fnExactCourseOfRow.holds Try.pinned (OpenSpec.ofChange fnExactCourseOfSpec)

/-- ITS FALSE NEIGHBOUR: 'it returns false'. Refute it at one input. -/
def fnExactCourseOfWrong : ChangeSpec := { name := "fnExactCourseOf", fn := fun _ => fun
  | [d] => { results := [.lit (.bool false)], args := [d] }
  | _ => none }
def FnExactCourseOfWrongFalsely : Prop := fnExactCourseOfRow.holds Try.pinned (OpenSpec.ofChange fnExactCourseOfWrong)

/-- 'laws.FnExactChangesOf': WHATEVER THE INPUT: true; the input reads as it did. -/
def fnExactChangesOfSpec : ChangeSpec := { name := "fnExactChangesOf", fn := fun _ => fun
  | [d] => { results := [.lit (.bool true)], args := [d] }
  | _ => none }
def fnExactChangesOfRow : OpenClaim := { program := "ytlhajgbhplnieaa", sum := "9fe5bc14523d872df1ee90da0916ad9a17c71baaab43516a0ea4ee55c69da98c", func := "loop.example/g00889/laws.FnExactChangesOf", spec := "fnExactChangesOf", apart := false }
def FnExactChangesOfSaid : Prop := fnExactChangesOfRow.holds Try.pinned (OpenSpec.ofChange fnExactChangesOfSpec)

/-- ITS FALSE NEIGHBOUR: 'it returns false'. Refute it at one input. -/
def fnExactChangesOfWrong : ChangeSpec := { name := "fnExactChangesOf", fn := fun _ => fun
  | [d] => { results := [.lit (.bool false)], args := [d] }
  | _ => none }
def FnExactChangesOfWrongFalsely : Prop := fnExactChangesOfRow.holds Try.pinned (OpenSpec.ofChange fnExactChangesOfWrong)

/-- 'laws.FnExactSetCourseLevel': WHATEVER THE INPUT: true; the input reads as it did. -/
def fnExactSetCourseLevelSpec : ChangeSpec := { name := "fnExactSetCourseLevel", fn := fun _ => fun
  | [d1, d2] => { results := [.lit (.bool true)], args := [d1, d2] }
  | _ => none }
def fnExactSetCourseLevelRow : OpenClaim := { program := "ytlhajgbhplnieaa", sum := "9fe5bc14523d872df1ee90da0916ad9a17c71baaab43516a0ea4ee55c69da98c", func := "loop.example/g00889/laws.FnExactSetCourseLevel", spec := "fnExactSetCourseLevel", apart := false }
def FnExactSetCourseLevelSaid : Prop := fnExactSetCourseLevelRow.holds Try.pinned (OpenSpec.ofChange fnExactSetCourseLevelSpec)

/-- ITS FALSE NEIGHBOUR: 'it returns false'. Refute it at one input. -/
def fnExactSetCourseLevelWrong : ChangeSpec := { name := "fnExactSetCourseLevel", fn := fun _ => fun
  | [d1, d2] => { results := [.lit (.bool false)], args := [d1, d2] }
  | _ => none }
def FnExactSetCourseLevelWrongFalsely : Prop := fnExactSetCourseLevelRow.holds Try.pinned (OpenSpec.ofChange fnExactSetCourseLevelWrong)

/-- 'laws.FnExactGapsOf': WHATEVER THE INPUT: true; the input reads as it did. -/
def fnExactGapsOfSpec : ChangeSpec := { name := "fnExactGapsOf", fn := fun _ => fun
  | [d] => { results := [.lit (.bool true)], args := [d] }
  | _ => none }
def fnExactGapsOfRow : OpenClaim := { program := "ytlhajgbhplnieaa", sum := "9fe5bc14523d872df1ee90da0916ad9a17c71baaab43516a0ea4ee55c69da98c", func := "loop.example/g00889/laws.FnExactGapsOf", spec := "fnExactGapsOf", apart := false }
def FnExactGapsOfSaid : Prop := fnExactGapsOfRow.holds Try.pinned (OpenSpec.ofChange fnExactGapsOfSpec)

/-- ITS FALSE NEIGHBOUR: 'it returns false'. Refute it at one input. -/
def fnExactGapsOfWrong : ChangeSpec := { name := "fnExactGapsOf", fn := fun _ => fun
  | [d] => { results := [.lit (.bool false)], args := [d] }
  | _ => none }
def FnExactGapsOfWrongFalsely : Prop := fnExactGapsOfRow.holds Try.pinned (OpenSpec.ofChange fnExactGapsOfWrong)

/-- 'laws.FnExactHigherCourse': WHATEVER THE INPUT: true; the input reads as it did. -/
def fnExactHigherCourseSpec : ChangeSpec := { name := "fnExactHigherCourse", fn := fun _ => fun
  | [d1, d2] => { results := [.lit (.bool true)], args := [d1, d2] }
  | _ => none }
def fnExactHigherCourseRow : OpenClaim := { program := "ytlhajgbhplnieaa", sum := "9fe5bc14523d872df1ee90da0916ad9a17c71baaab43516a0ea4ee55c69da98c", func := "loop.example/g00889/laws.FnExactHigherCourse", spec := "fnExactHigherCourse", unfollowed := true, recurses := true, apart := false }
def FnExactHigherCourseSaid : Prop := fnExactHigherCourseRow.holds Try.pinned (OpenSpec.ofChange fnExactHigherCourseSpec)

/-- ITS FALSE NEIGHBOUR: 'it returns false'. Refute it at one input. -/
def fnExactHigherCourseWrong : ChangeSpec := { name := "fnExactHigherCourse", fn := fun _ => fun
  | [d1, d2] => { results := [.lit (.bool false)], args := [d1, d2] }
  | _ => none }
def FnExactHigherCourseWrongFalsely : Prop := fnExactHigherCourseRow.holds Try.pinned (OpenSpec.ofChange fnExactHigherCourseWrong)

/-- 'laws.FnExactCommonCourse': WHATEVER THE INPUT: true; the input reads as it did. -/
def fnExactCommonCourseSpec : ChangeSpec := { name := "fnExactCommonCourse", fn := fun _ => fun
  | [d1, d2] => { results := [.lit (.bool true)], args := [d1, d2] }
  | _ => none }
def fnExactCommonCourseRow : OpenClaim := { program := "ytlhajgbhplnieaa", sum := "9fe5bc14523d872df1ee90da0916ad9a17c71baaab43516a0ea4ee55c69da98c", func := "loop.example/g00889/laws.FnExactCommonCourse", spec := "fnExactCommonCourse", unfollowed := true, recurses := true, apart := false }
def FnExactCommonCourseSaid : Prop := fnExactCommonCourseRow.holds Try.pinned (OpenSpec.ofChange fnExactCommonCourseSpec)

/-- ITS FALSE NEIGHBOUR: 'it returns false'. Refute it at one input. -/
def fnExactCommonCourseWrong : ChangeSpec := { name := "fnExactCommonCourse", fn := fun _ => fun
  | [d1, d2] => { results := [.lit (.bool false)], args := [d1, d2] }
  | _ => none }
def FnExactCommonCourseWrongFalsely : Prop := fnExactCommonCourseRow.holds Try.pinned (OpenSpec.ofChange fnExactCommonCourseWrong)

/- THE SECOND FORM. 'bulk': how many values and letters a reading holds, each counted each time it is reached (what is shared counts as often as it is met; a slice's spare places count too). A statement '..UptoSaid' is the law's where the arguments, and the package variables that the reading takes, are together of bulk at most 1048576: NARROWER than '..Said'. Prove '..Said' where nothing that the law and all that it calls make is longer than what came in: it says more and counts as full. Else prove '..UptoSaid'. A law counts once. -/
mutual
def uptoBulk {H : Type} : DataW H → Nat
  | .lit (.string bytes) => bytes.length + 1
  | .lit _ => 1
  | .nil => 1
  | .ptr d => uptoBulk d + 1
  | .slice elems spare => uptoBulkAll elems + uptoBulkAll spare + 1
  | .agg parts => uptoBulkAll parts + 1
  | .iface _ d => uptoBulk d + 1
  | .map entries => uptoBulkEntries entries + 1
  | .held _ => 1
def uptoBulkAll {H : Type} : List (DataW H) → Nat
  | [] => 0
  | d :: r => uptoBulk d + uptoBulkAll r
def uptoBulkEntries {H : Type} : List (Lit × DataW H) → Nat
  | [] => 0
  | x :: r => uptoBulkEntry x + uptoBulkEntries r
def uptoBulkEntry {H : Type} : Lit × DataW H → Nat
  | (.string bytes, d) => bytes.length + uptoBulk d + 1
  | (_, d) => uptoBulk d + 1
 end
def uptoSmall : (H : Type) → List (DataW H) → Bool := fun _ ds => decide (uptoBulkAll ds ≤ 1048576)
def OpenSpec.upto (s : _root_.Go.ChangeSpec) : _root_.Go.OpenSpec := { _root_.Go.OpenSpec.ofChange s with cond := some uptoSmall }

/-- 'laws.FnExactIsValidCourse', WHERE WHAT IT READS IS OF BULK AT MOST 1048576: true; the input reads as it did. -/
def fnExactIsValidCourseUptoRow : OpenClaim := { program := "ytlhajgbhplnieaa", sum := "9fe5bc14523d872df1ee90da0916ad9a17c71baaab43516a0ea4ee55c69da98c", func := "loop.example/g00889/laws.FnExactIsValidCourse", spec := "fnExactIsValidCourse", apart := false, narrowed := true }
def FnExactIsValidCourseUptoSaid : Prop := fnExactIsValidCourseUptoRow.holds Try.pinned (OpenSpec.upto fnExactIsValidCourseSpec)

/-- 'laws.FnExactCourseLevel', WHERE WHAT IT READS IS OF BULK AT MOST 1048576: true; the input reads as it did. -/
def fnExactCourseLevelUptoRow : OpenClaim := { program := "ytlhajgbhplnieaa", sum := "9fe5bc14523d872df1ee90da0916ad9a17c71baaab43516a0ea4ee55c69da98c", func := "loop.example/g00889/laws.FnExactCourseLevel", spec := "fnExactCourseLevel", apart := false, narrowed := true }
def FnExactCourseLevelUptoSaid : Prop := fnExactCourseLevelUptoRow.holds Try.pinned (OpenSpec.upto fnExactCourseLevelSpec)

/-- 'laws.FnExactHoursAt', WHERE WHAT IT READS IS OF BULK AT MOST 1048576: true; the input reads as it did. -/
def fnExactHoursAtUptoRow : OpenClaim := { program := "ytlhajgbhplnieaa", sum := "9fe5bc14523d872df1ee90da0916ad9a17c71baaab43516a0ea4ee55c69da98c", func := "loop.example/g00889/laws.FnExactHoursAt", spec := "fnExactHoursAt", apart := false, narrowed := true }
def FnExactHoursAtUptoSaid : Prop := fnExactHoursAtUptoRow.holds Try.pinned (OpenSpec.upto fnExactHoursAtSpec)

/-- 'laws.FnExactShiftCourse', WHERE WHAT IT READS IS OF BULK AT MOST 1048576: true; the input reads as it did. -/
def fnExactShiftCourseUptoRow : OpenClaim := { program := "ytlhajgbhplnieaa", sum := "9fe5bc14523d872df1ee90da0916ad9a17c71baaab43516a0ea4ee55c69da98c", func := "loop.example/g00889/laws.FnExactShiftCourse", spec := "fnExactShiftCourse", apart := false, narrowed := true }
def FnExactShiftCourseUptoSaid : Prop := fnExactShiftCourseUptoRow.holds Try.pinned (OpenSpec.upto fnExactShiftCourseSpec)

/-- 'laws.FnExactCourseOf', WHERE WHAT IT READS IS OF BULK AT MOST 1048576: true; the input reads as it did. -/
def fnExactCourseOfUptoRow : OpenClaim := { program := "ytlhajgbhplnieaa", sum := "9fe5bc14523d872df1ee90da0916ad9a17c71baaab43516a0ea4ee55c69da98c", func := "loop.example/g00889/laws.FnExactCourseOf", spec := "fnExactCourseOf", apart := false, narrowed := true }
def FnExactCourseOfUptoSaid : Prop := fnExactCourseOfUptoRow.holds Try.pinned (OpenSpec.upto fnExactCourseOfSpec)

/-- 'laws.FnExactChangesOf', WHERE WHAT IT READS IS OF BULK AT MOST 1048576: true; the input reads as it did. -/
def fnExactChangesOfUptoRow : OpenClaim := { program := "ytlhajgbhplnieaa", sum := "9fe5bc14523d872df1ee90da0916ad9a17c71baaab43516a0ea4ee55c69da98c", func := "loop.example/g00889/laws.FnExactChangesOf", spec := "fnExactChangesOf", apart := false, narrowed := true }
def FnExactChangesOfUptoSaid : Prop := fnExactChangesOfUptoRow.holds Try.pinned (OpenSpec.upto fnExactChangesOfSpec)

/-- 'laws.FnExactSetCourseLevel', WHERE WHAT IT READS IS OF BULK AT MOST 1048576: true; the input reads as it did. -/
def fnExactSetCourseLevelUptoRow : OpenClaim := { program := "ytlhajgbhplnieaa", sum := "9fe5bc14523d872df1ee90da0916ad9a17c71baaab43516a0ea4ee55c69da98c", func := "loop.example/g00889/laws.FnExactSetCourseLevel", spec := "fnExactSetCourseLevel", apart := false, narrowed := true }
def FnExactSetCourseLevelUptoSaid : Prop := fnExactSetCourseLevelUptoRow.holds Try.pinned (OpenSpec.upto fnExactSetCourseLevelSpec)

/-- 'laws.FnExactGapsOf', WHERE WHAT IT READS IS OF BULK AT MOST 1048576: true; the input reads as it did. -/
def fnExactGapsOfUptoRow : OpenClaim := { program := "ytlhajgbhplnieaa", sum := "9fe5bc14523d872df1ee90da0916ad9a17c71baaab43516a0ea4ee55c69da98c", func := "loop.example/g00889/laws.FnExactGapsOf", spec := "fnExactGapsOf", apart := false, narrowed := true }
def FnExactGapsOfUptoSaid : Prop := fnExactGapsOfUptoRow.holds Try.pinned (OpenSpec.upto fnExactGapsOfSpec)

/-- 'laws.FnExactHigherCourse', WHERE WHAT IT READS IS OF BULK AT MOST 1048576: true; the input reads as it did. -/
def fnExactHigherCourseUptoRow : OpenClaim := { program := "ytlhajgbhplnieaa", sum := "9fe5bc14523d872df1ee90da0916ad9a17c71baaab43516a0ea4ee55c69da98c", func := "loop.example/g00889/laws.FnExactHigherCourse", spec := "fnExactHigherCourse", unfollowed := true, recurses := true, apart := false, narrowed := true }
def FnExactHigherCourseUptoSaid : Prop := fnExactHigherCourseUptoRow.holds Try.pinned (OpenSpec.upto fnExactHigherCourseSpec)

/-- 'laws.FnExactCommonCourse', WHERE WHAT IT READS IS OF BULK AT MOST 1048576: true; the input reads as it did. -/
def fnExactCommonCourseUptoRow : OpenClaim := { program := "ytlhajgbhplnieaa", sum := "9fe5bc14523d872df1ee90da0916ad9a17c71baaab43516a0ea4ee55c69da98c", func := "loop.example/g00889/laws.FnExactCommonCourse", spec := "fnExactCommonCourse", unfollowed := true, recurses := true, apart := false, narrowed := true }
def FnExactCommonCourseUptoSaid : Prop := fnExactCommonCourseUptoRow.holds Try.pinned (OpenSpec.upto fnExactCommonCourseSpec)

end Rows
end Go.Proofs.Ytlhajgbhplnieaa
