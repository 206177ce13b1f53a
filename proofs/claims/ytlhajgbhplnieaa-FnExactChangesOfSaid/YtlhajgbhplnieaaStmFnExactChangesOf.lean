import Derived.Test.YtlhajgbhplnieaaPFnExactChangesOfx5
namespace Go.Proofs.Ytlhajgbhplnieaa.PFnExactChangesOf
open Go.RowKit
/-- The pure statement of the law: what its printed function answers, over numbers and lists. -/
def FnExactChangesOfPure : Prop := ∀ (l0 : List S44), l0.length ≤ maxLen → (∀ x ∈ l0, (Lit.int .i64 x.f0).wf = true ∧ (Lit.int .i64 x.f1).wf = true ∧ (Lit.int .i64 x.f2).wf = true) → ∃ k, laws_FnExactChangesOf.f k l0 = some true
end Go.Proofs.Ytlhajgbhplnieaa.PFnExactChangesOf
