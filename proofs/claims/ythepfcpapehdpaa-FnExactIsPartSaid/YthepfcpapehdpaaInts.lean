/- Ranges, minima, maxima, remainders: what the small functions on numbers come to. -/
import Derived.Test.YthepfcpapehdpaaBase
import Derived.Test.YthepfcpapehdpaaF3
import Derived.Test.YthepfcpapehdpaaF5
import Derived.Test.YthepfcpapehdpaaF51
namespace Go.Proofs.Ythepfcpapehdpaa.F
open Go.RowKit Go.Proofs.Ythepfcpapehdpaa.Opened Go.Proofs.YthepfcpapehdpaaW.PrintWords Go.Proofs.YthepfcpapehdpaaW.PrintLast Go.Proofs.YthepfcpapehdpaaW.PrintMore
set_option linter.unusedVariables false
set_option linter.unusedSimpArgs false
theorem spec_l1In.ok (a b c : Int) : spec_l1In.f a b c = some (decide (b ≤ a ∧ a ≤ c)) := by
  unfold spec_l1In.f
  by_cases h : b ≤ a <;> simp [h]
theorem impl_InRange.ok (a b c : Int) : impl_InRange.f a b c = some (decide (b ≤ a ∧ a ≤ c)) := by
  unfold impl_InRange.f
  by_cases h : b ≤ a <;> simp [h]
theorem spec_Max.ok (a b : Int) : spec_Max.f a b = some (mx a b) := by
  unfold spec_Max.f mx
  by_cases h : a < b <;> simp [h]
end Go.Proofs.Ythepfcpapehdpaa.F
