import Derived.Test.YtkiihcgngdepaaaXFnExactSkillScorex3
namespace Go.Proofs.Ytkiihcgngdepaaa.XFnExactSkillScore
open Go.RowKit
/-- The pure statement of the law: what its printed function answers, over numbers and lists. -/
def FnExactSkillScorePure : Prop := ∀ (l0 : List S63), l0.length ≤ maxLen → (∀ x ∈ l0, (Lit.int .i64 x.f0).wf = true) → ∃ k, laws_FnExactSkillScore.f k l0 = some true
end Go.Proofs.Ytkiihcgngdepaaa.XFnExactSkillScore
