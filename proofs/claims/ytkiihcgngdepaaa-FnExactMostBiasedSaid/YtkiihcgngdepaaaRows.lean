/-
  No cell of these rows narrows 'for every input' (looked for: loops, veiled, ifaces, maps, wideKeys, modest, calm, conditions, laid).
  DERIVED. THE GIVEN ROWS OF THIS SEAT. 12 by the template 'for every input the law returns true; each argument reads behind the call as it read before'; 0 by the template 'total and deterministic' (their statements: YtkiihcgngdepaaaTotals.lean).
  GIVEN WITH THE SEED: the statements are not yours to turn. If you find one false, say at which input.
  Laid BY PROGRAM, IN A SANDBOX (cutbox-rows.mjs): the forced cells as the released guide's own fill.sh prints them over the translation c7b2818f2282ff04… (all of the seat's roots in one cut). By AI agents, Wed Nov 11 2026. No macro, syntax, notation, axiom, sorry.
-/
import Derived.Test.YtkiihcgngdepaaaChecked
import GoSem.Claim
import GoSem.ClaimJoined
import GoSem.ClaimMapViews
import Derived.JoinedTies
import Derived.KernelRfl
namespace Go.Proofs.Ytkiihcgngdepaaa
/- THE CELL 'sum', in the pinned program and in every row, IS THE sha256 OF THE DUMP (.gsa) THAT YtkiihcgngdepaaaProg.lean LOADS. Nothing in Lean hashes anything: it is a label: what it is worth is what the hold of that sum in a sandbox is worth. -/
noncomputable def Try.pinned : Pinned := { name := "ytkiihcgngdepaaa", sum := "c7b2818f2282ff04e6a29ddd44a382853e1a82163ee925ad12ed34e531eea822", checked := Try.checked }
namespace Rows
def none {H : Type} : Left H := { results := [], args := [] }

/-- 'laws.FnExactIsValidChances': WHATEVER THE INPUT: true; the input reads as it did. -/
def fnExactIsValidChancesSpec : ChangeSpec := { name := "fnExactIsValidChances", fn := fun _ => fun
  | [d] => { results := [.lit (.bool true)], args := [d] }
  | _ => none }
def fnExactIsValidChancesRow : OpenClaim := { program := "ytkiihcgngdepaaa", sum := "c7b2818f2282ff04e6a29ddd44a382853e1a82163ee925ad12ed34e531eea822", func := "loop.example/g00889/laws.FnExactIsValidChances", spec := "fnExactIsValidChances", unfollowed := true, recurses := true, apart := false }
def FnExactIsValidChancesSaid : Prop := fnExactIsValidChancesRow.holds Try.pinned (OpenSpec.ofChange fnExactIsValidChancesSpec)

/-- ITS FALSE NEIGHBOUR: 'it returns false'. Refute it at one input. -/
def fnExactIsValidChancesWrong : ChangeSpec := { name := "fnExactIsValidChances", fn := fun _ => fun
  | [d] => { results := [.lit (.bool false)], args := [d] }
  | _ => none }
def FnExactIsValidChancesWrongFalsely : Prop := fnExactIsValidChancesRow.holds Try.pinned (OpenSpec.ofChange fnExactIsValidChancesWrong)

/-- 'laws.FnExactSharpForecasts': WHATEVER THE INPUT: true; the input reads as it did. -/
def fnExactSharpForecastsSpec : ChangeSpec := { name := "fnExactSharpForecasts", fn := fun _ => fun
  | [d1, d2] => { results := [.lit (.bool true)], args := [d1, d2] }
  | _ => none }
def fnExactSharpForecastsRow : OpenClaim := { program := "ytkiihcgngdepaaa", sum := "c7b2818f2282ff04e6a29ddd44a382853e1a82163ee925ad12ed34e531eea822", func := "loop.example/g00889/laws.FnExactSharpForecasts", spec := "fnExactSharpForecasts", unfollowed := true, recurses := true, apart := false }
def FnExactSharpForecastsSaid : Prop := fnExactSharpForecastsRow.holds Try.pinned (OpenSpec.ofChange fnExactSharpForecastsSpec)

/-- ITS FALSE NEIGHBOUR: 'it returns false'. Refute it at one input. -/
def fnExactSharpForecastsWrong : ChangeSpec := { name := "fnExactSharpForecasts", fn := fun _ => fun
  | [d1, d2] => { results := [.lit (.bool false)], args := [d1, d2] }
  | _ => none }
def FnExactSharpForecastsWrongFalsely : Prop := fnExactSharpForecastsRow.holds Try.pinned (OpenSpec.ofChange fnExactSharpForecastsWrong)

/-- 'laws.FnExactFlipChances': WHATEVER THE INPUT: true; the input reads as it did. -/
def fnExactFlipChancesSpec : ChangeSpec := { name := "fnExactFlipChances", fn := fun _ => fun
  | [d] => { results := [.lit (.bool true)], args := [d] }
  | _ => none }
def fnExactFlipChancesRow : OpenClaim := { program := "ytkiihcgngdepaaa", sum := "c7b2818f2282ff04e6a29ddd44a382853e1a82163ee925ad12ed34e531eea822", func := "loop.example/g00889/laws.FnExactFlipChances", spec := "fnExactFlipChances", unfollowed := true, recurses := true, apart := false }
def FnExactFlipChancesSaid : Prop := fnExactFlipChancesRow.holds Try.pinned (OpenSpec.ofChange fnExactFlipChancesSpec)

/-- ITS FALSE NEIGHBOUR: 'it returns false'. Refute it at one input. -/
def fnExactFlipChancesWrong : ChangeSpec := { name := "fnExactFlipChances", fn := fun _ => fun
  | [d] => { results := [.lit (.bool false)], args := [d] }
  | _ => none }
def FnExactFlipChancesWrongFalsely : Prop := fnExactFlipChancesRow.holds Try.pinned (OpenSpec.ofChange fnExactFlipChancesWrong)

/-- 'laws.FnExactDecideAt': WHATEVER THE INPUT: true; the input reads as it did. -/
def fnExactDecideAtSpec : ChangeSpec := { name := "fnExactDecideAt", fn := fun _ => fun
  | [d1, d2] => { results := [.lit (.bool true)], args := [d1, d2] }
  | _ => none }
def fnExactDecideAtRow : OpenClaim := { program := "ytkiihcgngdepaaa", sum := "c7b2818f2282ff04e6a29ddd44a382853e1a82163ee925ad12ed34e531eea822", func := "loop.example/g00889/laws.FnExactDecideAt", spec := "fnExactDecideAt", unfollowed := true, recurses := true, apart := false }
def FnExactDecideAtSaid : Prop := fnExactDecideAtRow.holds Try.pinned (OpenSpec.ofChange fnExactDecideAtSpec)

/-- ITS FALSE NEIGHBOUR: 'it returns false'. Refute it at one input. -/
def fnExactDecideAtWrong : ChangeSpec := { name := "fnExactDecideAt", fn := fun _ => fun
  | [d1, d2] => { results := [.lit (.bool false)], args := [d1, d2] }
  | _ => none }
def FnExactDecideAtWrongFalsely : Prop := fnExactDecideAtRow.holds Try.pinned (OpenSpec.ofChange fnExactDecideAtWrong)

/-- 'laws.FnExactBaseRate': WHATEVER THE INPUT: true; the input reads as it did. -/
def fnExactBaseRateSpec : ChangeSpec := { name := "fnExactBaseRate", fn := fun _ => fun
  | [d] => { results := [.lit (.bool true)], args := [d] }
  | _ => none }
def fnExactBaseRateRow : OpenClaim := { program := "ytkiihcgngdepaaa", sum := "c7b2818f2282ff04e6a29ddd44a382853e1a82163ee925ad12ed34e531eea822", func := "loop.example/g00889/laws.FnExactBaseRate", spec := "fnExactBaseRate", unfollowed := true, recurses := true, apart := false }
def FnExactBaseRateSaid : Prop := fnExactBaseRateRow.holds Try.pinned (OpenSpec.ofChange fnExactBaseRateSpec)

/-- ITS FALSE NEIGHBOUR: 'it returns false'. Refute it at one input. -/
def fnExactBaseRateWrong : ChangeSpec := { name := "fnExactBaseRate", fn := fun _ => fun
  | [d] => { results := [.lit (.bool false)], args := [d] }
  | _ => none }
def FnExactBaseRateWrongFalsely : Prop := fnExactBaseRateRow.holds Try.pinned (OpenSpec.ofChange fnExactBaseRateWrong)

/-- 'laws.FnExactBrierScore': WHATEVER THE INPUT: true; the input reads as it did. -/
def fnExactBrierScoreSpec : ChangeSpec := { name := "fnExactBrierScore", fn := fun _ => fun
  | [d] => { results := [.lit (.bool true)], args := [d] }
  | _ => none }
def fnExactBrierScoreRow : OpenClaim := { program := "ytkiihcgngdepaaa", sum := "c7b2818f2282ff04e6a29ddd44a382853e1a82163ee925ad12ed34e531eea822", func := "loop.example/g00889/laws.FnExactBrierScore", spec := "fnExactBrierScore", unfollowed := true, recurses := true, apart := false }
def FnExactBrierScoreSaid : Prop := fnExactBrierScoreRow.holds Try.pinned (OpenSpec.ofChange fnExactBrierScoreSpec)

/-- ITS FALSE NEIGHBOUR: 'it returns false'. Refute it at one input. -/
def fnExactBrierScoreWrong : ChangeSpec := { name := "fnExactBrierScore", fn := fun _ => fun
  | [d] => { results := [.lit (.bool false)], args := [d] }
  | _ => none }
def FnExactBrierScoreWrongFalsely : Prop := fnExactBrierScoreRow.holds Try.pinned (OpenSpec.ofChange fnExactBrierScoreWrong)

/-- 'laws.FnExactSkillScore': WHATEVER THE INPUT: true; the input reads as it did. -/
def fnExactSkillScoreSpec : ChangeSpec := { name := "fnExactSkillScore", fn := fun _ => fun
  | [d] => { results := [.lit (.bool true)], args := [d] }
  | _ => none }
def fnExactSkillScoreRow : OpenClaim := { program := "ytkiihcgngdepaaa", sum := "c7b2818f2282ff04e6a29ddd44a382853e1a82163ee925ad12ed34e531eea822", func := "loop.example/g00889/laws.FnExactSkillScore", spec := "fnExactSkillScore", unfollowed := true, recurses := true, apart := false }
def FnExactSkillScoreSaid : Prop := fnExactSkillScoreRow.holds Try.pinned (OpenSpec.ofChange fnExactSkillScoreSpec)

/-- ITS FALSE NEIGHBOUR: 'it returns false'. Refute it at one input. -/
def fnExactSkillScoreWrong : ChangeSpec := { name := "fnExactSkillScore", fn := fun _ => fun
  | [d] => { results := [.lit (.bool false)], args := [d] }
  | _ => none }
def FnExactSkillScoreWrongFalsely : Prop := fnExactSkillScoreRow.holds Try.pinned (OpenSpec.ofChange fnExactSkillScoreWrong)

/-- 'laws.FnExactMostBiased': WHATEVER THE INPUT: true; the input reads as it did. -/
def fnExactMostBiasedSpec : ChangeSpec := { name := "fnExactMostBiased", fn := fun _ => fun
  | [d] => { results := [.lit (.bool true)], args := [d] }
  | _ => none }
def fnExactMostBiasedRow : OpenClaim := { program := "ytkiihcgngdepaaa", sum := "c7b2818f2282ff04e6a29ddd44a382853e1a82163ee925ad12ed34e531eea822", func := "loop.example/g00889/laws.FnExactMostBiased", spec := "fnExactMostBiased", unfollowed := true, recurses := true, apart := false }
def FnExactMostBiasedSaid : Prop := fnExactMostBiasedRow.holds Try.pinned (OpenSpec.ofChange fnExactMostBiasedSpec)

/-- ITS FALSE NEIGHBOUR: 'it returns false'. Refute it at one input. -/
def fnExactMostBiasedWrong : ChangeSpec := { name := "fnExactMostBiased", fn := fun _ => fun
  | [d] => { results := [.lit (.bool false)], args := [d] }
  | _ => none }
def FnExactMostBiasedWrongFalsely : Prop := fnExactMostBiasedRow.holds Try.pinned (OpenSpec.ofChange fnExactMostBiasedWrong)

/-- 'laws.FnExactReliabilityTable': WHATEVER THE INPUT: true; the input reads as it did. -/
def fnExactReliabilityTableSpec : ChangeSpec := { name := "fnExactReliabilityTable", fn := fun _ => fun
  | [d] => { results := [.lit (.bool true)], args := [d] }
  | _ => none }
def fnExactReliabilityTableRow : OpenClaim := { program := "ytkiihcgngdepaaa", sum := "c7b2818f2282ff04e6a29ddd44a382853e1a82163ee925ad12ed34e531eea822", func := "loop.example/g00889/laws.FnExactReliabilityTable", spec := "fnExactReliabilityTable", unfollowed := true, recurses := true, apart := false }
def FnExactReliabilityTableSaid : Prop := fnExactReliabilityTableRow.holds Try.pinned (OpenSpec.ofChange fnExactReliabilityTableSpec)

/-- ITS FALSE NEIGHBOUR: 'it returns false'. Refute it at one input. -/
def fnExactReliabilityTableWrong : ChangeSpec := { name := "fnExactReliabilityTable", fn := fun _ => fun
  | [d] => { results := [.lit (.bool false)], args := [d] }
  | _ => none }
def FnExactReliabilityTableWrongFalsely : Prop := fnExactReliabilityTableRow.holds Try.pinned (OpenSpec.ofChange fnExactReliabilityTableWrong)

/-- 'laws.FnExactBestTenths': WHATEVER THE INPUT: true; the input reads as it did. -/
def fnExactBestTenthsSpec : ChangeSpec := { name := "fnExactBestTenths", fn := fun _ => fun
  | [d1, d2] => { results := [.lit (.bool true)], args := [d1, d2] }
  | _ => none }
def fnExactBestTenthsRow : OpenClaim := { program := "ytkiihcgngdepaaa", sum := "c7b2818f2282ff04e6a29ddd44a382853e1a82163ee925ad12ed34e531eea822", func := "loop.example/g00889/laws.FnExactBestTenths", spec := "fnExactBestTenths", unfollowed := true, recurses := true, apart := false }
def FnExactBestTenthsSaid : Prop := fnExactBestTenthsRow.holds Try.pinned (OpenSpec.ofChange fnExactBestTenthsSpec)

/-- ITS FALSE NEIGHBOUR: 'it returns false'. Refute it at one input. -/
def fnExactBestTenthsWrong : ChangeSpec := { name := "fnExactBestTenths", fn := fun _ => fun
  | [d1, d2] => { results := [.lit (.bool false)], args := [d1, d2] }
  | _ => none }
def FnExactBestTenthsWrongFalsely : Prop := fnExactBestTenthsRow.holds Try.pinned (OpenSpec.ofChange fnExactBestTenthsWrong)

/-- 'laws.FnExactExpenseTable': WHATEVER THE INPUT: true; the input reads as it did. -/
def fnExactExpenseTableSpec : ChangeSpec := { name := "fnExactExpenseTable", fn := fun _ => fun
  | [d1, d2] => { results := [.lit (.bool true)], args := [d1, d2] }
  | _ => none }
def fnExactExpenseTableRow : OpenClaim := { program := "ytkiihcgngdepaaa", sum := "c7b2818f2282ff04e6a29ddd44a382853e1a82163ee925ad12ed34e531eea822", func := "loop.example/g00889/laws.FnExactExpenseTable", spec := "fnExactExpenseTable", unfollowed := true, recurses := true, apart := false }
def FnExactExpenseTableSaid : Prop := fnExactExpenseTableRow.holds Try.pinned (OpenSpec.ofChange fnExactExpenseTableSpec)

/-- ITS FALSE NEIGHBOUR: 'it returns false'. Refute it at one input. -/
def fnExactExpenseTableWrong : ChangeSpec := { name := "fnExactExpenseTable", fn := fun _ => fun
  | [d1, d2] => { results := [.lit (.bool false)], args := [d1, d2] }
  | _ => none }
def FnExactExpenseTableWrongFalsely : Prop := fnExactExpenseTableRow.holds Try.pinned (OpenSpec.ofChange fnExactExpenseTableWrong)

/-- 'laws.FnExactCompareTables': WHATEVER THE INPUT: true; the input reads as it did. -/
def fnExactCompareTablesSpec : ChangeSpec := { name := "fnExactCompareTables", fn := fun _ => fun
  | [d1, d2] => { results := [.lit (.bool true)], args := [d1, d2] }
  | _ => none }
def fnExactCompareTablesRow : OpenClaim := { program := "ytkiihcgngdepaaa", sum := "c7b2818f2282ff04e6a29ddd44a382853e1a82163ee925ad12ed34e531eea822", func := "loop.example/g00889/laws.FnExactCompareTables", spec := "fnExactCompareTables", apart := false }
def FnExactCompareTablesSaid : Prop := fnExactCompareTablesRow.holds Try.pinned (OpenSpec.ofChange fnExactCompareTablesSpec)

/-- ITS FALSE NEIGHBOUR: 'it returns false'. Refute it at one input. -/
def fnExactCompareTablesWrong : ChangeSpec := { name := "fnExactCompareTables", fn := fun _ => fun
  | [d1, d2] => { results := [.lit (.bool false)], args := [d1, d2] }
  | _ => none }
def FnExactCompareTablesWrongFalsely : Prop := fnExactCompareTablesRow.holds Try.pinned (OpenSpec.ofChange fnExactCompareTablesWrong)

/- THE SECOND FORM. 'bulk': how many values and letters a reading holds, each counted each time it is reached (what is shared counts as often as it is met; a slice's spare places count too). A statement '..UptoSaid' is the law's where the arguments, and the package variables that the reading takes, are together of bulk at most 1048576: NARROWER than '..Said'. Prove '..Said' where nothing that the law and all that it calls make is longer than what came in: it says more and counts as full. Else prove '..UptoSaid'. A law counts once. -/
mutual
def uptoBulk {H : Type} : DataW H → Nat
  | .lit (.string bytes) => bytes.length + 1
  | .lit _ => 1
  | .nil => 1
  | .ptr d => uptoBulk d + 1
  | .slice elems spare => uptoBulkAll elems + uptoBulkAll spare + 1
  | .agg parts => uptoBulkAll parts + 1
  | .iface _ d => uptoBulk d + 1
  | .map entries => uptoBulkEntries entries + 1
  | .held _ => 1
def uptoBulkAll {H : Type} : List (DataW H) → Nat
  | [] => 0
  | d :: r => uptoBulk d + uptoBulkAll r
def uptoBulkEntries {H : Type} : List (Lit × DataW H) → Nat
  | [] => 0
  | x :: r => uptoBulkEntry x + uptoBulkEntries r
def uptoBulkEntry {H : Type} : Lit × DataW H → Nat
  | (.string bytes, d) => bytes.length + uptoBulk d + 1
  | (_, d) => uptoBulk d + 1
 end
def uptoSmall : (H : Type) → List (DataW H) → Bool := fun _ ds => decide (uptoBulkAll ds ≤ 1048576)
def OpenSpec.upto (s : _root_.Go.ChangeSpec) : _root_.Go.OpenSpec := { _root_.Go.OpenSpec.ofChange s with cond := some uptoSmall }

/-- 'laws.FnExactIsValidChances', WHERE WHAT IT READS IS OF BULK AT MOST 1048576: true; the input reads as it did. -/
def fnExactIsValidChancesUptoRow : OpenClaim := { program := "ytkiihcgngdepaaa", sum := "c7b2818f2282ff04e6a29ddd44a382853e1a82163ee925ad12ed34e531eea822", func := "loop.example/g00889/laws.FnExactIsValidChances", spec := "fnExactIsValidChances", unfollowed := true, recurses := true, apart := false, narrowed := true }
def FnExactIsValidChancesUptoSaid : Prop := fnExactIsValidChancesUptoRow.holds Try.pinned (OpenSpec.upto fnExactIsValidChancesSpec)

/-- 'laws.FnExactSharpForecasts', WHERE WHAT IT READS IS OF BULK AT MOST 1048576: true; the input reads as it did. -/
def fnExactSharpForecastsUptoRow : OpenClaim := { program := "ytkiihcgngdepaaa", sum := "c7b2818f2282ff04e6a29ddd44a382853e1a82163ee925ad12ed34e531eea822", func := "loop.example/g00889/laws.FnExactSharpForecasts", spec := "fnExactSharpForecasts", unfollowed := true, recurses := true, apart := false, narrowed := true }
def FnExactSharpForecastsUptoSaid : Prop := fnExactSharpForecastsUptoRow.holds Try.pinned (OpenSpec.upto fnExactSharpForecastsSpec)

/-- 'laws.FnExactFlipChances', WHERE WHAT IT READS IS OF BULK AT MOST 1048576: true; the input reads as it did. -/
def fnExactFlipChancesUptoRow : OpenClaim := { program := "ytkiihcgngdepaaa", sum := "c7b2818f2282ff04e6a29ddd44a382853e1a82163ee925ad12ed34e531eea822", func := "loop.example/g00889/laws.FnExactFlipChances", spec := "fnExactFlipChances", unfollowed := true, recurses := true, apart := false, narrowed := true }
def FnExactFlipChancesUptoSaid : Prop := fnExactFlipChancesUptoRow.holds Try.pinned (OpenSpec.upto fnExactFlipChancesSpec)

/-- 'laws.FnExactDecideAt', WHERE WHAT IT READS IS OF BULK AT MOST 1048576: true; the input reads as it did. -/
def fnExactDecideAtUptoRow : OpenClaim := { program := "ytkiihcgngdepaaa", sum := "c7b2818f2282ff04e6a29ddd44a382853e1a82163ee925ad12ed34e531eea822", func := "loop.example/g00889/laws.FnExactDecideAt", spec := "fnExactDecideAt", unfollowed := true, recurses := true, apart := false, narrowed := true }
def FnExactDecideAtUptoSaid : Prop := fnExactDecideAtUptoRow.holds Try.pinned (OpenSpec.upto fnExactDecideAtSpec)

/-- 'laws.FnExactBaseRate', WHERE WHAT IT READS IS OF BULK AT MOST 1048576: true; the input reads as it did. -/
def fnExactBaseRateUptoRow : OpenClaim := { program := "ytkiihcgngdepaaa", sum := "c7b2818f2282ff04e6a29ddd44a382853e1a82163ee925ad12ed34e531eea822", func := "loop.example/g00889/laws.FnExactBaseRate", spec := "fnExactBaseRate", unfollowed := true, recurses := true, apart := false, narrowed := true }
def FnExactBaseRateUptoSaid : Prop := fnExactBaseRateUptoRow.holds Try.pinned (OpenSpec.upto fnExactBaseRateSpec)

/-- 'laws.FnExactBrierScore', WHERE WHAT IT READS IS OF BULK AT MOST 1048576: true; the input reads as it did. -/
def fnExactBrierScoreUptoRow : OpenClaim := { program := "ytkiihcgngdepaaa", sum := "c7b2818f2282ff04e6a29ddd44a382853e1a82163ee925ad12ed34e531eea822", func := "loop.example/g00889/laws.FnExactBrierScore", spec := "fnExactBrierScore", unfollowed := true, recurses := true, apart := false, narrowed := true }
def FnExactBrierScoreUptoSaid : Prop := fnExactBrierScoreUptoRow.holds Try.pinned (OpenSpec.upto fnExactBrierScoreSpec)

/-- 'laws.FnExactSkillScore', WHERE WHAT IT READS IS OF BULK AT MOST 1048576: true; the input reads as it did. -/
def fnExactSkillScoreUptoRow : OpenClaim := { program := "ytkiihcgngdepaaa", sum := "c7b2818f2282ff04e6a29ddd44a382853e1a82163ee925ad12ed34e531eea822", func := "loop.example/g00889/laws.FnExactSkillScore", spec := "fnExactSkillScore", unfollowed := true, recurses := true, apart := false, narrowed := true }
def FnExactSkillScoreUptoSaid : Prop := fnExactSkillScoreUptoRow.holds Try.pinned (OpenSpec.upto fnExactSkillScoreSpec)

/-- 'laws.FnExactMostBiased', WHERE WHAT IT READS IS OF BULK AT MOST 1048576: true; the input reads as it did. -/
def fnExactMostBiasedUptoRow : OpenClaim := { program := "ytkiihcgngdepaaa", sum := "c7b2818f2282ff04e6a29ddd44a382853e1a82163ee925ad12ed34e531eea822", func := "loop.example/g00889/laws.FnExactMostBiased", spec := "fnExactMostBiased", unfollowed := true, recurses := true, apart := false, narrowed := true }
def FnExactMostBiasedUptoSaid : Prop := fnExactMostBiasedUptoRow.holds Try.pinned (OpenSpec.upto fnExactMostBiasedSpec)

/-- 'laws.FnExactReliabilityTable', WHERE WHAT IT READS IS OF BULK AT MOST 1048576: true; the input reads as it did. -/
def fnExactReliabilityTableUptoRow : OpenClaim := { program := "ytkiihcgngdepaaa", sum := "c7b2818f2282ff04e6a29ddd44a382853e1a82163ee925ad12ed34e531eea822", func := "loop.example/g00889/laws.FnExactReliabilityTable", spec := "fnExactReliabilityTable", unfollowed := true, recurses := true, apart := false, narrowed := true }
def FnExactReliabilityTableUptoSaid : Prop := fnExactReliabilityTableUptoRow.holds Try.pinned (OpenSpec.upto fnExactReliabilityTableSpec)

/-- 'laws.FnExactBestTenths', WHERE WHAT IT READS IS OF BULK AT MOST 1048576: true; the input reads as it did. -/
def fnExactBestTenthsUptoRow : OpenClaim := { program := "ytkiihcgngdepaaa", sum := "c7b2818f2282ff04e6a29ddd44a382853e1a82163ee925ad12ed34e531eea822", func := "loop.example/g00889/laws.FnExactBestTenths", spec := "fnExactBestTenths", unfollowed := true, recurses := true, apart := false, narrowed := true }
def FnExactBestTenthsUptoSaid : Prop := fnExactBestTenthsUptoRow.holds Try.pinned (OpenSpec.upto fnExactBestTenthsSpec)

/-- 'laws.FnExactExpenseTable', WHERE WHAT IT READS IS OF BULK AT MOST 1048576: true; the input reads as it did. -/
def fnExactExpenseTableUptoRow : OpenClaim := { program := "ytkiihcgngdepaaa", sum := "c7b2818f2282ff04e6a29ddd44a382853e1a82163ee925ad12ed34e531eea822", func := "loop.example/g00889/laws.FnExactExpenseTable", spec := "fnExactExpenseTable", unfollowed := true, recurses := true, apart := false, narrowed := true }
def FnExactExpenseTableUptoSaid : Prop := fnExactExpenseTableUptoRow.holds Try.pinned (OpenSpec.upto fnExactExpenseTableSpec)

/-- 'laws.FnExactCompareTables', WHERE WHAT IT READS IS OF BULK AT MOST 1048576: true; the input reads as it did. -/
def fnExactCompareTablesUptoRow : OpenClaim := { program := "ytkiihcgngdepaaa", sum := "c7b2818f2282ff04e6a29ddd44a382853e1a82163ee925ad12ed34e531eea822", func := "loop.example/g00889/laws.FnExactCompareTables", spec := "fnExactCompareTables", apart := false, narrowed := true }
def FnExactCompareTablesUptoSaid : Prop := fnExactCompareTablesUptoRow.holds Try.pinned (OpenSpec.upto fnExactCompareTablesSpec)

end Rows
end Go.Proofs.Ytkiihcgngdepaaa
