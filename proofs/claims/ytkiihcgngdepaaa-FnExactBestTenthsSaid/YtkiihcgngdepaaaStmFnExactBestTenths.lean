import Derived.Test.YtkiihcgngdepaaaXFnExactBestTenthsx5
namespace Go.Proofs.Ytkiihcgngdepaaa.XFnExactBestTenths
open Go.RowKit
/-- The pure statement of the law: what its printed function answers, over numbers and lists. -/
def FnExactBestTenthsPure : Prop := ∀ (a0_0 : Int) (a0_1 : Int) (l1 : List S63), (Lit.int .i64 a0_0).wf = true → (Lit.int .i64 a0_1).wf = true → l1.length ≤ maxLen → (∀ x ∈ l1, (Lit.int .i64 x.f0).wf = true) → ∃ k, laws_FnExactBestTenths.f k a0_0 a0_1 l1 = some true
end Go.Proofs.Ytkiihcgngdepaaa.XFnExactBestTenths
