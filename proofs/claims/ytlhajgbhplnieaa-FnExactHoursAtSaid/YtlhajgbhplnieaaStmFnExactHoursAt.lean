import Derived.Test.YtlhajgbhplnieaaPFnExactHoursAtx4
namespace Go.Proofs.Ytlhajgbhplnieaa.PFnExactHoursAt
open Go.RowKit
/-- The pure statement of the law: what its printed function answers, over numbers and lists. -/
def FnExactHoursAtPure : Prop := ∀ (l0 : List S44) (a1 : Int), l0.length ≤ maxLen → (∀ x ∈ l0, (Lit.int .i64 x.f0).wf = true ∧ (Lit.int .i64 x.f1).wf = true ∧ (Lit.int .i64 x.f2).wf = true) → (Lit.int .i64 a1).wf = true → ∃ k, laws_FnExactHoursAt.f k l0 a1 = some true
end Go.Proofs.Ytlhajgbhplnieaa.PFnExactHoursAt
