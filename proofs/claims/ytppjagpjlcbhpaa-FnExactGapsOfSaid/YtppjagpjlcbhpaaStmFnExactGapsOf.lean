import Derived.Test.YtppjagpjlcbhpaaXFnExactGapsOfx5
namespace Go.Proofs.Ytppjagpjlcbhpaa.XFnExactGapsOf
open Go.RowKit
/-- The pure statement of the law: what its printed function answers, over numbers and lists. -/
def FnExactGapsOfPure : Prop := ∀ (l0 : List S68), l0.length ≤ maxLen → (∀ x ∈ l0, (Lit.int .i64 x.f0).wf = true ∧ (Lit.int .i64 x.f1).wf = true ∧ (Lit.int .i64 x.f2).wf = true) → ∃ k, laws_FnExactGapsOf.f k l0 = some true
end Go.Proofs.Ytppjagpjlcbhpaa.XFnExactGapsOf
