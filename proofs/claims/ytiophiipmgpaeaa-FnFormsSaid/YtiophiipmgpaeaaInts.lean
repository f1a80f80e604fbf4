/- Ranges, minima, maxima, remainders: what the small functions on numbers come to. -/
import Derived.Test.YtiophiipmgpaeaaBase
import Derived.Test.YtiophiipmgpaeaaF2
import Derived.Test.YtiophiipmgpaeaaF6
import Derived.Test.YtiophiipmgpaeaaF117
namespace Go.Proofs.Ytiophiipmgpaeaa.F
open Go.RowKit Go.Proofs.Ytiophiipmgpaeaa.Opened Go.Proofs.YtiophiipmgpaeaaW.PrintWords Go.Proofs.YtiophiipmgpaeaaW.PrintLast Go.Proofs.YtiophiipmgpaeaaW.PrintMore
set_option linter.unusedVariables false
set_option linter.unusedSimpArgs false
theorem spec_l1In.ok (a b c : Int) : spec_l1In.f a b c = some (decide (b ≤ a ∧ a ≤ c)) := by
  unfold spec_l1In.f
  by_cases h : b ≤ a <;> simp [h]
theorem impl_InRange.ok (a b c : Int) : impl_InRange.f a b c = some (decide (b ≤ a ∧ a ≤ c)) := by
  unfold impl_InRange.f
  by_cases h : b ≤ a <;> simp [h]
theorem spec_Min.ok (a b : Int) : spec_Min.f a b = some (mn a b) := by
  unfold spec_Min.f mn
  by_cases h : b < a <;> simp [h]
end Go.Proofs.Ytiophiipmgpaeaa.F
