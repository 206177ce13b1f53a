import Derived.Test.YtjagdjbiljooiaaXFnExactPruneQueuex7
namespace Go.Proofs.Ytjagdjbiljooiaa.XFnExactPruneQueue
open Go.RowKit
/-- The pure statement of the law: what its printed function answers, over numbers and lists. -/
def FnExactPruneQueuePure : Prop := ∀ (l0 : List S96), l0.length ≤ maxLen → (∀ x ∈ l0, (Lit.int .i64 x.f0).wf = true ∧ (Lit.int .i64 x.f1).wf = true ∧ (Lit.int .i64 x.f2).wf = true ∧ (Lit.int .i64 x.f3).wf = true) → ∃ k, laws_FnExactPruneQueue.f k l0 = some true
end Go.Proofs.Ytjagdjbiljooiaa.XFnExactPruneQueue
