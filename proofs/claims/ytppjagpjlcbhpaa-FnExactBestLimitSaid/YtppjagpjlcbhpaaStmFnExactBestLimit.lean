import Derived.Test.YtppjagpjlcbhpaaXFnExactBestLimitx11
namespace Go.Proofs.Ytppjagpjlcbhpaa.XFnExactBestLimit
open Go.RowKit
/-- The pure statement of the law: what its printed function answers, over numbers and lists. -/
def FnExactBestLimitPure : Prop := ∀ (a0_0 : Int) (a0_1 : Int) (l0_2 : List Int) (a1_0 : Int) (a1_1 : Int) (l1_2 : List Int) (a2 : Int), (Lit.int .i64 a0_0).wf = true → (Lit.int .i64 a0_1).wf = true → l0_2.length ≤ maxLen → (∀ x ∈ l0_2, (Lit.int .i64 x).wf = true) → (Lit.int .i64 a1_0).wf = true → (Lit.int .i64 a1_1).wf = true → l1_2.length ≤ maxLen → (∀ x ∈ l1_2, (Lit.int .i64 x).wf = true) → (Lit.int .i64 a2).wf = true → ∃ k, laws_FnExactBestLimit.f k a0_0 a0_1 l0_2 a1_0 a1_1 l1_2 a2 = some true
end Go.Proofs.Ytppjagpjlcbhpaa.XFnExactBestLimit
