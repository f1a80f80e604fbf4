/- The pure statement of FnExactIsMeter: over numbers and lists alone. -/
import Derived.Test.YthepfcpapehdpaaSay
import Derived.Test.YthepfcpapehdpaaInts
import Derived.Test.YthepfcpapehdpaaF11
import Derived.Test.YthepfcpapehdpaaF8
import Derived.Test.YthepfcpapehdpaaF10
namespace Go.Proofs.Ythepfcpapehdpaa.Pure
open Go.RowKit Go.Proofs.Ythepfcpapehdpaa.F Go.Proofs.Ythepfcpapehdpaa.Opened Go.Proofs.YthepfcpapehdpaaW.PrintWords Go.Proofs.YthepfcpapehdpaaW.PrintLast Go.Proofs.YthepfcpapehdpaaW.PrintMore
set_option linter.unusedVariables false
set_option linter.unusedSimpArgs false

/-- The pure statement of laws_FnExactIsMeter. -/
def Pure_FnExactIsMeter : Prop := ∀ (a0_0 : Int) (a0_1 : Int), I64 a0_0 → I64 a0_1 → laws_FnExactIsMeter.f a0_0 a0_1 = some true

theorem impl_IsMeter_eq (a b : Int) : impl_IsMeter.f a b = spec_IsMeter.f a b := by
  unfold impl_IsMeter.f spec_IsMeter.f
  rw [spec_l1In.ok, impl_InRange.ok]
theorem spec_IsMeter_some (a b : Int) : ∃ r, spec_IsMeter.f a b = some r := by
  unfold spec_IsMeter.f
  rw [spec_l1In.ok]
  simp only [Option.bind_some]
  repeat' split
  all_goals exact ⟨_, rfl⟩
theorem pure_FnExactIsMeter : Pure_FnExactIsMeter := by
  intro a b ha hb
  obtain ⟨r, hr⟩ := spec_IsMeter_some a b
  unfold laws_FnExactIsMeter.f
  simp [laws_toMeter.f, impl_IsMeter_eq, hr]

end Go.Proofs.Ythepfcpapehdpaa.Pure
