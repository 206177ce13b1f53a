/-
  No cell of these rows narrows 'for every input' (looked for: loops, veiled, ifaces, maps, wideKeys, modest, calm, conditions, laid).
  DERIVED. THE GIVEN ROWS OF THIS SEAT. 12 by the template 'for every input the law returns true; each argument reads behind the call as it read before'; 0 by the template 'total and deterministic' (their statements: YtfonkplhmmabfaaTotals.lean).
  GIVEN WITH THE SEED: the statements are not yours to turn. If you find one false, say at which input.
  Laid BY PROGRAM, IN A SANDBOX (cutbox-rows.mjs): the forced cells as the released guide's own fill.sh prints them over the translation d038ac9a63631138… (all of the seat's roots in one cut). By AI agents, Wed Nov 11 2026. No macro, syntax, notation, axiom, sorry.
-/
import Derived.Test.YtfonkplhmmabfaaChecked
import GoSem.Claim
import GoSem.ClaimJoined
import GoSem.ClaimMapViews
import Derived.JoinedTies
import Derived.KernelRfl
namespace Go.Proofs.Ytfonkplhmmabfaa
/- THE CELL 'sum', in the pinned program and in every row, IS THE sha256 OF THE DUMP (.gsa) THAT YtfonkplhmmabfaaProg.lean LOADS. Nothing in Lean hashes anything: it is a label: what it is worth is what the hold of that sum in a sandbox is worth. -/
noncomputable def Try.pinned : Pinned := { name := "ytfonkplhmmabfaa", sum := "d038ac9a636311381e69a1744a40eb1fab00faa3707ee1096f83e0d45202dd8f", checked := Try.checked }
namespace Rows
def none {H : Type} : Left H := { results := [], args := [] }

/-- 'laws.FnExactShouldProtect': WHATEVER THE INPUT: true; the input reads as it did. -/
def fnExactShouldProtectSpec : ChangeSpec := { name := "fnExactShouldProtect", fn := fun _ => fun
  | [d1, d2, d3] => { results := [.lit (.bool true)], args := [d1, d2, d3] }
  | _ => none }
def fnExactShouldProtectRow : OpenClaim := { program := "ytfonkplhmmabfaa", sum := "d038ac9a636311381e69a1744a40eb1fab00faa3707ee1096f83e0d45202dd8f", func := "loop.example/g00889/laws.FnExactShouldProtect", spec := "fnExactShouldProtect", apart := false }
def FnExactShouldProtectSaid : Prop := fnExactShouldProtectRow.holds Try.pinned (OpenSpec.ofChange fnExactShouldProtectSpec)

/-- ITS FALSE NEIGHBOUR: 'it returns false'. Refute it at one input. -/
def fnExactShouldProtectWrong : ChangeSpec := { name := "fnExactShouldProtect", fn := fun _ => fun
  | [d1, d2, d3] => { results := [.lit (.bool false)], args := [d1, d2, d3] }
  | _ => none }
def FnExactShouldProtectWrongFalsely : Prop := fnExactShouldProtectRow.holds Try.pinned (OpenSpec.ofChange fnExactShouldProtectWrong)

/-- 'laws.FnExactPerfectExpense': WHATEVER THE INPUT: true; the input reads as it did. -/
def fnExactPerfectExpenseSpec : ChangeSpec := { name := "fnExactPerfectExpense", fn := fun _ => fun
  | [d1, d2] => { results := [.lit (.bool true)], args := [d1, d2] }
  | _ => none }
def fnExactPerfectExpenseRow : OpenClaim := { program := "ytfonkplhmmabfaa", sum := "d038ac9a636311381e69a1744a40eb1fab00faa3707ee1096f83e0d45202dd8f", func := "loop.example/g00889/laws.FnExactPerfectExpense", spec := "fnExactPerfectExpense", apart := false }
def FnExactPerfectExpenseSaid : Prop := fnExactPerfectExpenseRow.holds Try.pinned (OpenSpec.ofChange fnExactPerfectExpenseSpec)

/-- ITS FALSE NEIGHBOUR: 'it returns false'. Refute it at one input. -/
def fnExactPerfectExpenseWrong : ChangeSpec := { name := "fnExactPerfectExpense", fn := fun _ => fun
  | [d1, d2] => { results := [.lit (.bool false)], args := [d1, d2] }
  | _ => none }
def FnExactPerfectExpenseWrongFalsely : Prop := fnExactPerfectExpenseRow.holds Try.pinned (OpenSpec.ofChange fnExactPerfectExpenseWrong)

/-- 'laws.FnExactExpenseOf': WHATEVER THE INPUT: true; the input reads as it did. -/
def fnExactExpenseOfSpec : ChangeSpec := { name := "fnExactExpenseOf", fn := fun _ => fun
  | [d1, d2] => { results := [.lit (.bool true)], args := [d1, d2] }
  | _ => none }
def fnExactExpenseOfRow : OpenClaim := { program := "ytfonkplhmmabfaa", sum := "d038ac9a636311381e69a1744a40eb1fab00faa3707ee1096f83e0d45202dd8f", func := "loop.example/g00889/laws.FnExactExpenseOf", spec := "fnExactExpenseOf", apart := false }
def FnExactExpenseOfSaid : Prop := fnExactExpenseOfRow.holds Try.pinned (OpenSpec.ofChange fnExactExpenseOfSpec)

/-- ITS FALSE NEIGHBOUR: 'it returns false'. Refute it at one input. -/
def fnExactExpenseOfWrong : ChangeSpec := { name := "fnExactExpenseOf", fn := fun _ => fun
  | [d1, d2] => { results := [.lit (.bool false)], args := [d1, d2] }
  | _ => none }
def FnExactExpenseOfWrongFalsely : Prop := fnExactExpenseOfRow.holds Try.pinned (OpenSpec.ofChange fnExactExpenseOfWrong)

/-- 'laws.FnExactBestWithout': WHATEVER THE INPUT: true; the input reads as it did. -/
def fnExactBestWithoutSpec : ChangeSpec := { name := "fnExactBestWithout", fn := fun _ => fun
  | [d1, d2] => { results := [.lit (.bool true)], args := [d1, d2] }
  | _ => none }
def fnExactBestWithoutRow : OpenClaim := { program := "ytfonkplhmmabfaa", sum := "d038ac9a636311381e69a1744a40eb1fab00faa3707ee1096f83e0d45202dd8f", func := "loop.example/g00889/laws.FnExactBestWithout", spec := "fnExactBestWithout", apart := false }
def FnExactBestWithoutSaid : Prop := fnExactBestWithoutRow.holds Try.pinned (OpenSpec.ofChange fnExactBestWithoutSpec)

/-- ITS FALSE NEIGHBOUR: 'it returns false'. Refute it at one input. -/
def fnExactBestWithoutWrong : ChangeSpec := { name := "fnExactBestWithout", fn := fun _ => fun
  | [d1, d2] => { results := [.lit (.bool false)], args := [d1, d2] }
  | _ => none }
def FnExactBestWithoutWrongFalsely : Prop := fnExactBestWithoutRow.holds Try.pinned (OpenSpec.ofChange fnExactBestWithoutWrong)

/-- 'laws.FnExactIsWorthless': WHATEVER THE INPUT: true; the input reads as it did. -/
def fnExactIsWorthlessSpec : ChangeSpec := { name := "fnExactIsWorthless", fn := fun _ => fun
  | [d1, d2] => { results := [.lit (.bool true)], args := [d1, d2] }
  | _ => none }
def fnExactIsWorthlessRow : OpenClaim := { program := "ytfonkplhmmabfaa", sum := "d038ac9a636311381e69a1744a40eb1fab00faa3707ee1096f83e0d45202dd8f", func := "loop.example/g00889/laws.FnExactIsWorthless", spec := "fnExactIsWorthless", apart := false }
def FnExactIsWorthlessSaid : Prop := fnExactIsWorthlessRow.holds Try.pinned (OpenSpec.ofChange fnExactIsWorthlessSpec)

/-- ITS FALSE NEIGHBOUR: 'it returns false'. Refute it at one input. -/
def fnExactIsWorthlessWrong : ChangeSpec := { name := "fnExactIsWorthless", fn := fun _ => fun
  | [d1, d2] => { results := [.lit (.bool false)], args := [d1, d2] }
  | _ => none }
def FnExactIsWorthlessWrongFalsely : Prop := fnExactIsWorthlessRow.holds Try.pinned (OpenSpec.ofChange fnExactIsWorthlessWrong)

/-- 'laws.FnExactValueOf': WHATEVER THE INPUT: true; the input reads as it did. -/
def fnExactValueOfSpec : ChangeSpec := { name := "fnExactValueOf", fn := fun _ => fun
  | [d1, d2] => { results := [.lit (.bool true)], args := [d1, d2] }
  | _ => none }
def fnExactValueOfRow : OpenClaim := { program := "ytfonkplhmmabfaa", sum := "d038ac9a636311381e69a1744a40eb1fab00faa3707ee1096f83e0d45202dd8f", func := "loop.example/g00889/laws.FnExactValueOf", spec := "fnExactValueOf", apart := false }
def FnExactValueOfSaid : Prop := fnExactValueOfRow.holds Try.pinned (OpenSpec.ofChange fnExactValueOfSpec)

/-- ITS FALSE NEIGHBOUR: 'it returns false'. Refute it at one input. -/
def fnExactValueOfWrong : ChangeSpec := { name := "fnExactValueOf", fn := fun _ => fun
  | [d1, d2] => { results := [.lit (.bool false)], args := [d1, d2] }
  | _ => none }
def FnExactValueOfWrongFalsely : Prop := fnExactValueOfRow.holds Try.pinned (OpenSpec.ofChange fnExactValueOfWrong)

/-- 'laws.FnExactAddTables': WHATEVER THE INPUT: true; the input reads as it did. -/
def fnExactAddTablesSpec : ChangeSpec := { name := "fnExactAddTables", fn := fun _ => fun
  | [d1, d2] => { results := [.lit (.bool true)], args := [d1, d2] }
  | _ => none }
def fnExactAddTablesRow : OpenClaim := { program := "ytfonkplhmmabfaa", sum := "d038ac9a636311381e69a1744a40eb1fab00faa3707ee1096f83e0d45202dd8f", func := "loop.example/g00889/laws.FnExactAddTables", spec := "fnExactAddTables", apart := false }
def FnExactAddTablesSaid : Prop := fnExactAddTablesRow.holds Try.pinned (OpenSpec.ofChange fnExactAddTablesSpec)

/-- ITS FALSE NEIGHBOUR: 'it returns false'. Refute it at one input. -/
def fnExactAddTablesWrong : ChangeSpec := { name := "fnExactAddTables", fn := fun _ => fun
  | [d1, d2] => { results := [.lit (.bool false)], args := [d1, d2] }
  | _ => none }
def FnExactAddTablesWrongFalsely : Prop := fnExactAddTablesRow.holds Try.pinned (OpenSpec.ofChange fnExactAddTablesWrong)

/-- 'laws.FnExactHitRate': WHATEVER THE INPUT: true; the input reads as it did. -/
def fnExactHitRateSpec : ChangeSpec := { name := "fnExactHitRate", fn := fun _ => fun
  | [d] => { results := [.lit (.bool true)], args := [d] }
  | _ => none }
def fnExactHitRateRow : OpenClaim := { program := "ytfonkplhmmabfaa", sum := "d038ac9a636311381e69a1744a40eb1fab00faa3707ee1096f83e0d45202dd8f", func := "loop.example/g00889/laws.FnExactHitRate", spec := "fnExactHitRate", apart := false }
def FnExactHitRateSaid : Prop := fnExactHitRateRow.holds Try.pinned (OpenSpec.ofChange fnExactHitRateSpec)

/-- ITS FALSE NEIGHBOUR: 'it returns false'. Refute it at one input. -/
def fnExactHitRateWrong : ChangeSpec := { name := "fnExactHitRate", fn := fun _ => fun
  | [d] => { results := [.lit (.bool false)], args := [d] }
  | _ => none }
def FnExactHitRateWrongFalsely : Prop := fnExactHitRateRow.holds Try.pinned (OpenSpec.ofChange fnExactHitRateWrong)

/-- 'laws.FnExactAlarmRatio': WHATEVER THE INPUT: true; the input reads as it did. -/
def fnExactAlarmRatioSpec : ChangeSpec := { name := "fnExactAlarmRatio", fn := fun _ => fun
  | [d] => { results := [.lit (.bool true)], args := [d] }
  | _ => none }
def fnExactAlarmRatioRow : OpenClaim := { program := "ytfonkplhmmabfaa", sum := "d038ac9a636311381e69a1744a40eb1fab00faa3707ee1096f83e0d45202dd8f", func := "loop.example/g00889/laws.FnExactAlarmRatio", spec := "fnExactAlarmRatio", apart := false }
def FnExactAlarmRatioSaid : Prop := fnExactAlarmRatioRow.holds Try.pinned (OpenSpec.ofChange fnExactAlarmRatioSpec)

/-- ITS FALSE NEIGHBOUR: 'it returns false'. Refute it at one input. -/
def fnExactAlarmRatioWrong : ChangeSpec := { name := "fnExactAlarmRatio", fn := fun _ => fun
  | [d] => { results := [.lit (.bool false)], args := [d] }
  | _ => none }
def FnExactAlarmRatioWrongFalsely : Prop := fnExactAlarmRatioRow.holds Try.pinned (OpenSpec.ofChange fnExactAlarmRatioWrong)

/-- 'laws.FnExactFrequencyBias': WHATEVER THE INPUT: true; the input reads as it did. -/
def fnExactFrequencyBiasSpec : ChangeSpec := { name := "fnExactFrequencyBias", fn := fun _ => fun
  | [d] => { results := [.lit (.bool true)], args := [d] }
  | _ => none }
def fnExactFrequencyBiasRow : OpenClaim := { program := "ytfonkplhmmabfaa", sum := "d038ac9a636311381e69a1744a40eb1fab00faa3707ee1096f83e0d45202dd8f", func := "loop.example/g00889/laws.FnExactFrequencyBias", spec := "fnExactFrequencyBias", apart := false }
def FnExactFrequencyBiasSaid : Prop := fnExactFrequencyBiasRow.holds Try.pinned (OpenSpec.ofChange fnExactFrequencyBiasSpec)

/-- ITS FALSE NEIGHBOUR: 'it returns false'. Refute it at one input. -/
def fnExactFrequencyBiasWrong : ChangeSpec := { name := "fnExactFrequencyBias", fn := fun _ => fun
  | [d] => { results := [.lit (.bool false)], args := [d] }
  | _ => none }
def FnExactFrequencyBiasWrongFalsely : Prop := fnExactFrequencyBiasRow.holds Try.pinned (OpenSpec.ofChange fnExactFrequencyBiasWrong)

/-- 'laws.FnExactThreatScore': WHATEVER THE INPUT: true; the input reads as it did. -/
def fnExactThreatScoreSpec : ChangeSpec := { name := "fnExactThreatScore", fn := fun _ => fun
  | [d] => { results := [.lit (.bool true)], args := [d] }
  | _ => none }
def fnExactThreatScoreRow : OpenClaim := { program := "ytfonkplhmmabfaa", sum := "d038ac9a636311381e69a1744a40eb1fab00faa3707ee1096f83e0d45202dd8f", func := "loop.example/g00889/laws.FnExactThreatScore", spec := "fnExactThreatScore", apart := false }
def FnExactThreatScoreSaid : Prop := fnExactThreatScoreRow.holds Try.pinned (OpenSpec.ofChange fnExactThreatScoreSpec)

/-- ITS FALSE NEIGHBOUR: 'it returns false'. Refute it at one input. -/
def fnExactThreatScoreWrong : ChangeSpec := { name := "fnExactThreatScore", fn := fun _ => fun
  | [d] => { results := [.lit (.bool false)], args := [d] }
  | _ => none }
def FnExactThreatScoreWrongFalsely : Prop := fnExactThreatScoreRow.holds Try.pinned (OpenSpec.ofChange fnExactThreatScoreWrong)

/-- 'laws.FnExactHeidkeScore': WHATEVER THE INPUT: true; the input reads as it did. -/
def fnExactHeidkeScoreSpec : ChangeSpec := { name := "fnExactHeidkeScore", fn := fun _ => fun
  | [d] => { results := [.lit (.bool true)], args := [d] }
  | _ => none }
def fnExactHeidkeScoreRow : OpenClaim := { program := "ytfonkplhmmabfaa", sum := "d038ac9a636311381e69a1744a40eb1fab00faa3707ee1096f83e0d45202dd8f", func := "loop.example/g00889/laws.FnExactHeidkeScore", spec := "fnExactHeidkeScore", apart := false }
def FnExactHeidkeScoreSaid : Prop := fnExactHeidkeScoreRow.holds Try.pinned (OpenSpec.ofChange fnExactHeidkeScoreSpec)

/-- ITS FALSE NEIGHBOUR: 'it returns false'. Refute it at one input. -/
def fnExactHeidkeScoreWrong : ChangeSpec := { name := "fnExactHeidkeScore", fn := fun _ => fun
  | [d] => { results := [.lit (.bool false)], args := [d] }
  | _ => none }
def FnExactHeidkeScoreWrongFalsely : Prop := fnExactHeidkeScoreRow.holds Try.pinned (OpenSpec.ofChange fnExactHeidkeScoreWrong)

/- THE SECOND FORM. 'bulk': how many values and letters a reading holds, each counted each time it is reached (what is shared counts as often as it is met; a slice's spare places count too). A statement '..UptoSaid' is the law's where the arguments, and the package variables that the reading takes, are together of bulk at most 1048576: NARROWER than '..Said'. Prove '..Said' where nothing that the law and all that it calls make is longer than what came in: it says more and counts as full. Else prove '..UptoSaid'. A law counts once. -/
mutual
def uptoBulk {H : Type} : DataW H → Nat
  | .lit (.string bytes) => bytes.length + 1
  | .lit _ => 1
  | .nil => 1
  | .ptr d => uptoBulk d + 1
  | .slice elems spare => uptoBulkAll elems + uptoBulkAll spare + 1
  | .agg parts => uptoBulkAll parts + 1
  | .iface _ d => uptoBulk d + 1
  | .map entries => uptoBulkEntries entries + 1
  | .held _ => 1
def uptoBulkAll {H : Type} : List (DataW H) → Nat
  | [] => 0
  | d :: r => uptoBulk d + uptoBulkAll r
def uptoBulkEntries {H : Type} : List (Lit × DataW H) → Nat
  | [] => 0
  | x :: r => uptoBulkEntry x + uptoBulkEntries r
def uptoBulkEntry {H : Type} : Lit × DataW H → Nat
  | (.string bytes, d) => bytes.length + uptoBulk d + 1
  | (_, d) => uptoBulk d + 1
 end
def uptoSmall : (H : Type) → List (DataW H) → Bool := fun _ ds => decide (uptoBulkAll ds ≤ 1048576)
def OpenSpec.upto (s : _root_.Go.ChangeSpec) : _root_.Go.OpenSpec := { _root_.Go.OpenSpec.ofChange s with cond := some uptoSmall }

/-- 'laws.FnExactShouldProtect', WHERE WHAT IT READS IS OF BULK AT MOST 1048576: true; the input reads as it did. -/
def fnExactShouldProtectUptoRow : OpenClaim := { program := "ytfonkplhmmabfaa", sum := "d038ac9a636311381e69a1744a40eb1fab00faa3707ee1096f83e0d45202dd8f", func := "loop.example/g00889/laws.FnExactShouldProtect", spec := "fnExactShouldProtect", apart := false, narrowed := true }
def FnExactShouldProtectUptoSaid : Prop := fnExactShouldProtectUptoRow.holds Try.pinned (OpenSpec.upto fnExactShouldProtectSpec)

/-- 'laws.FnExactPerfectExpense', WHERE WHAT IT READS IS OF BULK AT MOST 1048576: true; the input reads as it did. -/
def fnExactPerfectExpenseUptoRow : OpenClaim := { program := "ytfonkplhmmabfaa", sum := "d038ac9a636311381e69a1744a40eb1fab00faa3707ee1096f83e0d45202dd8f", func := "loop.example/g00889/laws.FnExactPerfectExpense", spec := "fnExactPerfectExpense", apart := false, narrowed := true }
def FnExactPerfectExpenseUptoSaid : Prop := fnExactPerfectExpenseUptoRow.holds Try.pinned (OpenSpec.upto fnExactPerfectExpenseSpec)

/-- 'laws.FnExactExpenseOf', WHERE WHAT IT READS IS OF BULK AT MOST 1048576: true; the input reads as it did. -/
def fnExactExpenseOfUptoRow : OpenClaim := { program := "ytfonkplhmmabfaa", sum := "d038ac9a636311381e69a1744a40eb1fab00faa3707ee1096f83e0d45202dd8f", func := "loop.example/g00889/laws.FnExactExpenseOf", spec := "fnExactExpenseOf", apart := false, narrowed := true }
def FnExactExpenseOfUptoSaid : Prop := fnExactExpenseOfUptoRow.holds Try.pinned (OpenSpec.upto fnExactExpenseOfSpec)

/-- 'laws.FnExactBestWithout', WHERE WHAT IT READS IS OF BULK AT MOST 1048576: true; the input reads as it did. -/
def fnExactBestWithoutUptoRow : OpenClaim := { program := "ytfonkplhmmabfaa", sum := "d038ac9a636311381e69a1744a40eb1fab00faa3707ee1096f83e0d45202dd8f", func := "loop.example/g00889/laws.FnExactBestWithout", spec := "fnExactBestWithout", apart := false, narrowed := true }
def FnExactBestWithoutUptoSaid : Prop := fnExactBestWithoutUptoRow.holds Try.pinned (OpenSpec.upto fnExactBestWithoutSpec)

/-- 'laws.FnExactIsWorthless', WHERE WHAT IT READS IS OF BULK AT MOST 1048576: true; the input reads as it did. -/
def fnExactIsWorthlessUptoRow : OpenClaim := { program := "ytfonkplhmmabfaa", sum := "d038ac9a636311381e69a1744a40eb1fab00faa3707ee1096f83e0d45202dd8f", func := "loop.example/g00889/laws.FnExactIsWorthless", spec := "fnExactIsWorthless", apart := false, narrowed := true }
def FnExactIsWorthlessUptoSaid : Prop := fnExactIsWorthlessUptoRow.holds Try.pinned (OpenSpec.upto fnExactIsWorthlessSpec)

/-- 'laws.FnExactValueOf', WHERE WHAT IT READS IS OF BULK AT MOST 1048576: true; the input reads as it did. -/
def fnExactValueOfUptoRow : OpenClaim := { program := "ytfonkplhmmabfaa", sum := "d038ac9a636311381e69a1744a40eb1fab00faa3707ee1096f83e0d45202dd8f", func := "loop.example/g00889/laws.FnExactValueOf", spec := "fnExactValueOf", apart := false, narrowed := true }
def FnExactValueOfUptoSaid : Prop := fnExactValueOfUptoRow.holds Try.pinned (OpenSpec.upto fnExactValueOfSpec)

/-- 'laws.FnExactAddTables', WHERE WHAT IT READS IS OF BULK AT MOST 1048576: true; the input reads as it did. -/
def fnExactAddTablesUptoRow : OpenClaim := { program := "ytfonkplhmmabfaa", sum := "d038ac9a636311381e69a1744a40eb1fab00faa3707ee1096f83e0d45202dd8f", func := "loop.example/g00889/laws.FnExactAddTables", spec := "fnExactAddTables", apart := false, narrowed := true }
def FnExactAddTablesUptoSaid : Prop := fnExactAddTablesUptoRow.holds Try.pinned (OpenSpec.upto fnExactAddTablesSpec)

/-- 'laws.FnExactHitRate', WHERE WHAT IT READS IS OF BULK AT MOST 1048576: true; the input reads as it did. -/
def fnExactHitRateUptoRow : OpenClaim := { program := "ytfonkplhmmabfaa", sum := "d038ac9a636311381e69a1744a40eb1fab00faa3707ee1096f83e0d45202dd8f", func := "loop.example/g00889/laws.FnExactHitRate", spec := "fnExactHitRate", apart := false, narrowed := true }
def FnExactHitRateUptoSaid : Prop := fnExactHitRateUptoRow.holds Try.pinned (OpenSpec.upto fnExactHitRateSpec)

/-- 'laws.FnExactAlarmRatio', WHERE WHAT IT READS IS OF BULK AT MOST 1048576: true; the input reads as it did. -/
def fnExactAlarmRatioUptoRow : OpenClaim := { program := "ytfonkplhmmabfaa", sum := "d038ac9a636311381e69a1744a40eb1fab00faa3707ee1096f83e0d45202dd8f", func := "loop.example/g00889/laws.FnExactAlarmRatio", spec := "fnExactAlarmRatio", apart := false, narrowed := true }
def FnExactAlarmRatioUptoSaid : Prop := fnExactAlarmRatioUptoRow.holds Try.pinned (OpenSpec.upto fnExactAlarmRatioSpec)

/-- 'laws.FnExactFrequencyBias', WHERE WHAT IT READS IS OF BULK AT MOST 1048576: true; the input reads as it did. -/
def fnExactFrequencyBiasUptoRow : OpenClaim := { program := "ytfonkplhmmabfaa", sum := "d038ac9a636311381e69a1744a40eb1fab00faa3707ee1096f83e0d45202dd8f", func := "loop.example/g00889/laws.FnExactFrequencyBias", spec := "fnExactFrequencyBias", apart := false, narrowed := true }
def FnExactFrequencyBiasUptoSaid : Prop := fnExactFrequencyBiasUptoRow.holds Try.pinned (OpenSpec.upto fnExactFrequencyBiasSpec)

/-- 'laws.FnExactThreatScore', WHERE WHAT IT READS IS OF BULK AT MOST 1048576: true; the input reads as it did. -/
def fnExactThreatScoreUptoRow : OpenClaim := { program := "ytfonkplhmmabfaa", sum := "d038ac9a636311381e69a1744a40eb1fab00faa3707ee1096f83e0d45202dd8f", func := "loop.example/g00889/laws.FnExactThreatScore", spec := "fnExactThreatScore", apart := false, narrowed := true }
def FnExactThreatScoreUptoSaid : Prop := fnExactThreatScoreUptoRow.holds Try.pinned (OpenSpec.upto fnExactThreatScoreSpec)

/-- 'laws.FnExactHeidkeScore', WHERE WHAT IT READS IS OF BULK AT MOST 1048576: true; the input reads as it did. -/
def fnExactHeidkeScoreUptoRow : OpenClaim := { program := "ytfonkplhmmabfaa", sum := "d038ac9a636311381e69a1744a40eb1fab00faa3707ee1096f83e0d45202dd8f", func := "loop.example/g00889/laws.FnExactHeidkeScore", spec := "fnExactHeidkeScore", apart := false, narrowed := true }
def FnExactHeidkeScoreUptoSaid : Prop := fnExactHeidkeScoreUptoRow.holds Try.pinned (OpenSpec.upto fnExactHeidkeScoreSpec)

end Rows
end Go.Proofs.Ytfonkplhmmabfaa
