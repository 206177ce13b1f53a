import Derived.Test.YtfonkplhmmabfaaPFnExactShouldProtectx1
namespace Go.Proofs.Ytfonkplhmmabfaa.PFnExactShouldProtect
open Go.RowKit
/-- The pure statement of the law: what its printed function answers, over numbers and lists. -/
def FnExactShouldProtectPure : Prop := ∀ (a0_0 : Int) (a0_1 : Int) (a1 : Int) (a2 : Int), (Lit.int .i64 a0_0).wf = true → (Lit.int .i64 a0_1).wf = true → (Lit.int .i64 a1).wf = true → (Lit.int .i64 a2).wf = true → laws_FnExactShouldProtect.f a0_0 a0_1 a1 a2 = some true
end Go.Proofs.Ytfonkplhmmabfaa.PFnExactShouldProtect
