import Derived.Test.YtlhajgbhplnieaaXFnExactShiftCoursex5
namespace Go.Proofs.Ytlhajgbhplnieaa.XFnExactShiftCourse
open Go.RowKit
/-- The pure statement of the law: what its printed function answers, over numbers and lists. -/
def FnExactShiftCoursePure : Prop := ∀ (l0 : List S44) (a1 : Int), l0.length ≤ maxLen → (∀ x ∈ l0, (Lit.int .i64 x.f0).wf = true ∧ (Lit.int .i64 x.f1).wf = true ∧ (Lit.int .i64 x.f2).wf = true) → (Lit.int .i64 a1).wf = true → ∃ k, laws_FnExactShiftCourse.f k l0 a1 = some true
end Go.Proofs.Ytlhajgbhplnieaa.XFnExactShiftCourse
