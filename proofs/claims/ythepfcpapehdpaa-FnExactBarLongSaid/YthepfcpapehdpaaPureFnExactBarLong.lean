/- The pure statement of FnExactBarLong: over numbers and lists alone. -/
import Derived.Test.YthepfcpapehdpaaSay
import Derived.Test.YthepfcpapehdpaaMeter
import Derived.Test.YthepfcpapehdpaaF16
namespace Go.Proofs.Ythepfcpapehdpaa.Pure
open Go.RowKit Go.Proofs.Ythepfcpapehdpaa.F Go.Proofs.Ythepfcpapehdpaa.Opened Go.Proofs.YthepfcpapehdpaaW.PrintWords Go.Proofs.YthepfcpapehdpaaW.PrintLast Go.Proofs.YthepfcpapehdpaaW.PrintMore
set_option linter.unusedVariables false
set_option linter.unusedSimpArgs false

/-- The pure statement of laws_FnExactBarLong. -/
def Pure_FnExactBarLong : Prop := ∀ (a0_0 : Int) (a0_1 : Int), I64 a0_0 → I64 a0_1 → laws_FnExactBarLong.f a0_0 a0_1 = some true

theorem pure_FnExactBarLong : Pure_FnExactBarLong := by
  intro a b ha hb
  unfold laws_FnExactBarLong.f
  simp [laws_toMeter.f, spec_BarLong.ok, impl_BarLong.ok]

end Go.Proofs.Ythepfcpapehdpaa.Pure
