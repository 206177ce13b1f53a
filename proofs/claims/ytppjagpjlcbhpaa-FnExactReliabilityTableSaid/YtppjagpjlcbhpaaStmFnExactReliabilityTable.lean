import Derived.Test.YtppjagpjlcbhpaaXFnExactReliabilityTablex4
namespace Go.Proofs.Ytppjagpjlcbhpaa.XFnExactReliabilityTable
open Go.RowKit
/-- The pure statement of the law: what its printed function answers, over numbers and lists. -/
def FnExactReliabilityTablePure : Prop := ∀ (l0 : List S78), l0.length ≤ maxLen → (∀ x ∈ l0, (Lit.int .i64 x.f0).wf = true) → ∃ k, laws_FnExactReliabilityTable.f k l0 = some true
end Go.Proofs.Ytppjagpjlcbhpaa.XFnExactReliabilityTable
