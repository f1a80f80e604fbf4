/- Ranges, minima, maxima, remainders: what the small functions on numbers come to. -/
import Derived.Test.YtbhlmeghbfmgiaaBase
import Derived.Test.YtbhlmeghbfmgiaaF9
import Derived.Test.YtbhlmeghbfmgiaaF23
import Derived.Test.YtbhlmeghbfmgiaaF143
import Derived.Test.YtbhlmeghbfmgiaaF101
namespace Go.Proofs.Ytbhlmeghbfmgiaa.F
open Go.RowKit Go.Proofs.Ytbhlmeghbfmgiaa.Opened Go.Proofs.YtbhlmeghbfmgiaaW.PrintWords Go.Proofs.YtbhlmeghbfmgiaaW.PrintLast Go.Proofs.YtbhlmeghbfmgiaaW.PrintMore
set_option linter.unusedVariables false
set_option linter.unusedSimpArgs false
theorem spec_l1In.ok (a b c : Int) : spec_l1In.f a b c = some (decide (b ≤ a ∧ a ≤ c)) := by
  unfold spec_l1In.f
  by_cases h : b ≤ a <;> simp [h]
theorem impl_InRange.ok (a b c : Int) : impl_InRange.f a b c = some (decide (b ≤ a ∧ a ≤ c)) := by
  unfold impl_InRange.f
  by_cases h : b ≤ a <;> simp [h]
theorem spec_Max.ok (a b : Int) : spec_Max.f a b = some (mx a b) := by
  unfold spec_Max.f mx
  by_cases h : a < b <;> simp [h]
theorem spec_Min.ok (a b : Int) : spec_Min.f a b = some (mn a b) := by
  unfold spec_Min.f mn
  by_cases h : b < a <;> simp [h]
end Go.Proofs.Ytbhlmeghbfmgiaa.F
