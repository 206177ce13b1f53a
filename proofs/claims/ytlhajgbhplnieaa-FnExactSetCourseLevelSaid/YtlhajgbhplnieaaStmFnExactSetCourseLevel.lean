import Derived.Test.YtlhajgbhplnieaaPFnExactSetCourseLevelx6
namespace Go.Proofs.Ytlhajgbhplnieaa.PFnExactSetCourseLevel
open Go.RowKit
/-- The pure statement of the law: what its printed function answers, over numbers and lists. -/
def FnExactSetCourseLevelPure : Prop := ∀ (l0 : List S44) (a1_0 : Int) (a1_1 : Int) (a1_2 : Int), l0.length ≤ maxLen → (∀ x ∈ l0, (Lit.int .i64 x.f0).wf = true ∧ (Lit.int .i64 x.f1).wf = true ∧ (Lit.int .i64 x.f2).wf = true) → (Lit.int .i64 a1_0).wf = true → (Lit.int .i64 a1_1).wf = true → (Lit.int .i64 a1_2).wf = true → ∃ k, laws_FnExactSetCourseLevel.f k l0 a1_0 a1_1 a1_2 = some true
end Go.Proofs.Ytlhajgbhplnieaa.PFnExactSetCourseLevel
