import Derived.Test.YtoddajhpfhdemaaPFnExactCountStatesx7
namespace Go.Proofs.Ytoddajhpfhdemaa.PFnExactCountStates
open Go.RowKit
/-- The pure statement of the law: what its printed function answers, over numbers and lists. -/
def FnExactCountStatesPure : Prop := ∀ (l0 : List S52), l0.length ≤ maxLen → (∀ x ∈ l0, (Lit.int .i64 x.f0).wf = true ∧ (Lit.int .i64 x.f1).wf = true ∧ (Lit.int .i64 x.f2).wf = true ∧ (Lit.int .i64 x.f3).wf = true) → ∃ k, laws_FnExactCountStates.f k l0 = some true
end Go.Proofs.Ytoddajhpfhdemaa.PFnExactCountStates
