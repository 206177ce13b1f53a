import Derived.Test.YtlhajgbhplnieaaPFnExactIsValidCoursex3
namespace Go.Proofs.Ytlhajgbhplnieaa.PFnExactIsValidCourse
open Go.RowKit
/-- The pure statement of the law: what its printed function answers, over numbers and lists. -/
def FnExactIsValidCoursePure : Prop := ∀ (l0 : List S44), l0.length ≤ maxLen → (∀ x ∈ l0, (Lit.int .i64 x.f0).wf = true ∧ (Lit.int .i64 x.f1).wf = true ∧ (Lit.int .i64 x.f2).wf = true) → ∃ k, laws_FnExactIsValidCourse.f k l0 = some true
end Go.Proofs.Ytlhajgbhplnieaa.PFnExactIsValidCourse
