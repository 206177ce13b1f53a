import Derived.Test.YtoddajhpfhdemaaPFnExactWorstWaitx1
namespace Go.Proofs.Ytoddajhpfhdemaa.PFnExactWorstWait
open Go.RowKit
/-- The pure statement of the law: what its printed function answers, over numbers and lists. -/
def FnExactWorstWaitPure : Prop := ∀ (a0 : Int), (Lit.int .i64 a0).wf = true → ∃ k, laws_FnExactWorstWait.f k a0 = some true
end Go.Proofs.Ytoddajhpfhdemaa.PFnExactWorstWait
