import Derived.Test.YtfdjjkkhkojfgaaXFnExactKeepsSlopex4
namespace Go.Proofs.Ytfdjjkkhkojfgaa.XFnExactKeepsSlope
open Go.RowKit
/-- The pure statement of the law: what its printed function answers, over numbers and lists. -/
def FnExactKeepsSlopePure : Prop := ∀ (a0_0 : Int) (a0_1 : Int) (l0_2 : List Int) (a1 : Int), (Lit.int .i64 a0_0).wf = true → (Lit.int .i64 a0_1).wf = true → l0_2.length ≤ maxLen → (∀ x ∈ l0_2, (Lit.int .i64 x).wf = true) → (Lit.int .i64 a1).wf = true → ∃ k, laws_FnExactKeepsSlope.f k a0_0 a0_1 l0_2 a1 = some true
end Go.Proofs.Ytfdjjkkhkojfgaa.XFnExactKeepsSlope
