import Derived.Test.YtfonkplhmmabfaaPFnExactHeidkeScorex2
namespace Go.Proofs.Ytfonkplhmmabfaa.PFnExactHeidkeScore
open Go.RowKit
/-- The pure statement of the law: what its printed function answers, over numbers and lists. -/
def FnExactHeidkeScorePure : Prop := ∀ (a0_0 : Int) (a0_1 : Int) (a0_2 : Int) (a0_3 : Int), (Lit.int .i64 a0_0).wf = true → (Lit.int .i64 a0_1).wf = true → (Lit.int .i64 a0_2).wf = true → (Lit.int .i64 a0_3).wf = true → ∃ k, laws_FnExactHeidkeScore.f k a0_0 a0_1 a0_2 a0_3 = some true
end Go.Proofs.Ytfonkplhmmabfaa.PFnExactHeidkeScore
