import Derived.Test.YtkiihcgngdepaaaXFnExactMostBiasedx3
namespace Go.Proofs.Ytkiihcgngdepaaa.XFnExactMostBiased
open Go.RowKit
/-- The pure statement of the law: what its printed function answers, over numbers and lists. -/
def FnExactMostBiasedPure : Prop := ∀ (l0 : List S63), l0.length ≤ maxLen → (∀ x ∈ l0, (Lit.int .i64 x.f0).wf = true) → ∃ k, laws_FnExactMostBiased.f k l0 = some true
end Go.Proofs.Ytkiihcgngdepaaa.XFnExactMostBiased
