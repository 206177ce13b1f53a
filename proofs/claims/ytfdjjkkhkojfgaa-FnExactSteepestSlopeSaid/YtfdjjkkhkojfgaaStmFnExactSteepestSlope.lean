import Derived.Test.YtfdjjkkhkojfgaaXFnExactSteepestSlopex4
namespace Go.Proofs.Ytfdjjkkhkojfgaa.XFnExactSteepestSlope
open Go.RowKit
/-- The pure statement of the law: what its printed function answers, over numbers and lists. -/
def FnExactSteepestSlopePure : Prop := ∀ (a0_0 : Int) (a0_1 : Int) (l0_2 : List Int), (Lit.int .i64 a0_0).wf = true → (Lit.int .i64 a0_1).wf = true → l0_2.length ≤ maxLen → (∀ x ∈ l0_2, (Lit.int .i64 x).wf = true) → ∃ k, laws_FnExactSteepestSlope.f k a0_0 a0_1 l0_2 = some true
end Go.Proofs.Ytfdjjkkhkojfgaa.XFnExactSteepestSlope
