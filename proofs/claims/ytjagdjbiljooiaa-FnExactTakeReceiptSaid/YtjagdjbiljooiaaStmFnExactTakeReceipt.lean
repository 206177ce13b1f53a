import Derived.Test.YtjagdjbiljooiaaXFnExactTakeReceiptx7
namespace Go.Proofs.Ytjagdjbiljooiaa.XFnExactTakeReceipt
open Go.RowKit
/-- The pure statement of the law: what its printed function answers, over numbers and lists. -/
def FnExactTakeReceiptPure : Prop := ∀ (l0 : List S96) (a1 : Int), l0.length ≤ maxLen → (∀ x ∈ l0, (Lit.int .i64 x.f0).wf = true ∧ (Lit.int .i64 x.f1).wf = true ∧ (Lit.int .i64 x.f2).wf = true ∧ (Lit.int .i64 x.f3).wf = true) → (Lit.int .i64 a1).wf = true → ∃ k, laws_FnExactTakeReceipt.f k l0 a1 = some true
end Go.Proofs.Ytjagdjbiljooiaa.XFnExactTakeReceipt
