import Derived.Test.YtppjagpjlcbhpaaXFnExactAddDeliveryx9
namespace Go.Proofs.Ytppjagpjlcbhpaa.XFnExactAddDelivery
open Go.RowKit
/-- The pure statement of the law: what its printed function answers, over numbers and lists. -/
def FnExactAddDeliveryPure : Prop := ∀ (l0 : List S87) (a1 : Int) (a2 : Int), l0.length ≤ maxLen → (∀ x ∈ l0, (Lit.int .i64 x.f0).wf = true ∧ (Lit.int .i64 x.f1).wf = true ∧ (Lit.int .i64 x.f2).wf = true ∧ (Lit.int .i64 x.f3).wf = true) → (Lit.int .i64 a1).wf = true → (Lit.int .i64 a2).wf = true → ∃ k, laws_FnExactAddDelivery.f k l0 a1 a2 = some true
end Go.Proofs.Ytppjagpjlcbhpaa.XFnExactAddDelivery
