import Derived.Test.YtkiihcgngdepaaaXFnExactDecideAtx4
namespace Go.Proofs.Ytkiihcgngdepaaa.XFnExactDecideAt
open Go.RowKit
/-- The pure statement of the law: what its printed function answers, over numbers and lists. -/
def FnExactDecideAtPure : Prop := ∀ (l0 : List S63) (a1 : Int), l0.length ≤ maxLen → (∀ x ∈ l0, (Lit.int .i64 x.f0).wf = true) → (Lit.int .i64 a1).wf = true → ∃ k, laws_FnExactDecideAt.f k l0 a1 = some true
end Go.Proofs.Ytkiihcgngdepaaa.XFnExactDecideAt
