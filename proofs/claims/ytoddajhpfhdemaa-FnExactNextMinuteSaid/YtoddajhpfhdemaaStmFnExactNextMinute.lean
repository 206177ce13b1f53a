import Derived.Test.YtoddajhpfhdemaaPFnExactNextMinutex6
namespace Go.Proofs.Ytoddajhpfhdemaa.PFnExactNextMinute
open Go.RowKit
/-- The pure statement of the law: what its printed function answers, over numbers and lists. -/
def FnExactNextMinutePure : Prop := ∀ (l0 : List S52), l0.length ≤ maxLen → (∀ x ∈ l0, (Lit.int .i64 x.f0).wf = true ∧ (Lit.int .i64 x.f1).wf = true ∧ (Lit.int .i64 x.f2).wf = true ∧ (Lit.int .i64 x.f3).wf = true) → ∃ k, laws_FnExactNextMinute.f k l0 = some true
end Go.Proofs.Ytoddajhpfhdemaa.PFnExactNextMinute
