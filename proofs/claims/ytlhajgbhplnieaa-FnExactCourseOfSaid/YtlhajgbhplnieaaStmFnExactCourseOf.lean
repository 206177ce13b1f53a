import Derived.Test.YtlhajgbhplnieaaPFnExactCourseOfx4
namespace Go.Proofs.Ytlhajgbhplnieaa.PFnExactCourseOf
open Go.RowKit
/-- The pure statement of the law: what its printed function answers, over numbers and lists. -/
def FnExactCourseOfPure : Prop := ∀ (l0 : List Int), l0.length ≤ maxLen → (∀ x ∈ l0, (Lit.int .i64 x).wf = true) → ∃ k, laws_FnExactCourseOf.f k l0 = some true
end Go.Proofs.Ytlhajgbhplnieaa.PFnExactCourseOf
