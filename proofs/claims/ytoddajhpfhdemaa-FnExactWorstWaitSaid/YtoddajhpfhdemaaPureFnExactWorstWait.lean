/-
  The pure statement of the law FnExactWorstWait: what its printed function answers is 'true' for all numbers and lists of its kinds. Conditions: the kinds' own bounds, as the statement lays them.
-/
import Derived.Test.YtoddajhpfhdemaaStmFnExactWorstWait
import Derived.DataShut
namespace Go.Proofs.Ytoddajhpfhdemaa.PFnExactWorstWait.Pure
open Go.RowKit Go.Proofs.Ytoddajhpfhdemaa.PFnExactWorstWait Go.Proofs.YtoddajhpfhdemaaW.PrintWords Go.Proofs.YtoddajhpfhdemaaW.PrintLast Go.Proofs.YtoddajhpfhdemaaW.PrintMore
set_option linter.unusedVariables false
set_option linter.unusedSimpArgs false
theorem within_ok (a b c : Int) : impl_within.f a b c = some (decide (b ≤ a ∧ a ≤ c)) := by
  unfold impl_within.f
  split <;> simp <;> omega
theorem l1In_ok (a b c : Int) : spec_l1In.f a b c = some (decide (b ≤ a ∧ a ≤ c)) := by
  unfold spec_l1In.f
  split <;> simp <;> omega
theorem FnExactWorstWait : FnExactWorstWaitPure := by
  intro a _
  refine ⟨20, ?_⟩
  by_cases h : 1 ≤ a ∧ a ≤ 6
  · obtain rfl | rfl | rfl | rfl | rfl | rfl : a = 1 ∨ a = 2 ∨ a = 3 ∨ a = 4 ∨ a = 5 ∨ a = 6 := by omega
    all_goals decide +kernel
  · simp [laws_FnExactWorstWait.f, spec_WorstWait.f, impl_WorstWait.f, within_ok, l1In_ok, h]
end Go.Proofs.Ytoddajhpfhdemaa.PFnExactWorstWait.Pure
