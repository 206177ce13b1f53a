import Derived.Test.YtlhajgbhplnieaaXFnExactCommonCoursex6
namespace Go.Proofs.Ytlhajgbhplnieaa.XFnExactCommonCourse
open Go.RowKit
/-- The pure statement of the law: what its printed function answers, over numbers and lists. -/
def FnExactCommonCoursePure : Prop := ∀ (l0 : List S44) (l1 : List S44), l0.length ≤ maxLen → (∀ x ∈ l0, (Lit.int .i64 x.f0).wf = true ∧ (Lit.int .i64 x.f1).wf = true ∧ (Lit.int .i64 x.f2).wf = true) → l1.length ≤ maxLen → (∀ x ∈ l1, (Lit.int .i64 x.f0).wf = true ∧ (Lit.int .i64 x.f1).wf = true ∧ (Lit.int .i64 x.f2).wf = true) → ∃ k, laws_FnExactCommonCourse.f k l0 l1 = some true
end Go.Proofs.Ytlhajgbhplnieaa.XFnExactCommonCourse
