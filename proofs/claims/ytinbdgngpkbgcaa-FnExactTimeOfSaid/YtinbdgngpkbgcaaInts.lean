/- Ranges, minima, maxima, remainders: what the small functions on numbers come to. -/
import Derived.Test.YtinbdgngpkbgcaaBase
import Derived.Test.YtinbdgngpkbgcaaF2
import Derived.Test.YtinbdgngpkbgcaaF7
import Derived.Test.YtinbdgngpkbgcaaF19
namespace Go.Proofs.Ytinbdgngpkbgcaa.F
open Go.RowKit Go.Proofs.Ytinbdgngpkbgcaa.Opened Go.Proofs.YtinbdgngpkbgcaaW.PrintWords Go.Proofs.YtinbdgngpkbgcaaW.PrintLast Go.Proofs.YtinbdgngpkbgcaaW.PrintMore
set_option linter.unusedVariables false
set_option linter.unusedSimpArgs false
theorem spec_l1In.ok (a b c : Int) : spec_l1In.f a b c = some (decide (b ≤ a ∧ a ≤ c)) := by
  unfold spec_l1In.f
  by_cases h : b ≤ a <;> simp [h]
theorem impl_InRange.ok (a b c : Int) : impl_InRange.f a b c = some (decide (b ≤ a ∧ a ≤ c)) := by
  unfold impl_InRange.f
  by_cases h : b ≤ a <;> simp [h]
theorem spec_Min.ok (a b : Int) : spec_Min.f a b = some (mn a b) := by
  unfold spec_Min.f mn
  by_cases h : b < a <;> simp [h]
end Go.Proofs.Ytinbdgngpkbgcaa.F
