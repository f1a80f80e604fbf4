/- The pure statement of FnExactKindName: over numbers and lists alone. -/
import Derived.Test.YthepfcpapehdpaaSay
import Derived.Test.YthepfcpapehdpaaInts
import Derived.Test.YthepfcpapehdpaaF7
namespace Go.Proofs.Ythepfcpapehdpaa.Pure
open Go.RowKit Go.Proofs.Ythepfcpapehdpaa.F Go.Proofs.Ythepfcpapehdpaa.Opened Go.Proofs.YthepfcpapehdpaaW.PrintWords Go.Proofs.YthepfcpapehdpaaW.PrintLast Go.Proofs.YthepfcpapehdpaaW.PrintMore
set_option linter.unusedVariables false
set_option linter.unusedSimpArgs false

/-- The pure statement of laws_FnExactKindName. -/
def Pure_FnExactKindName : Prop := ∀ (a0 : Int), I64 a0 → laws_FnExactKindName.f a0 = some true

theorem pure_FnExactKindName : Pure_FnExactKindName := by
  intro a ha
  unfold laws_FnExactKindName.f spec_KindName.f impl_KindName.f
  rw [spec_l1In.ok, impl_InRange.ok]
  by_cases h : 1 ≤ a ∧ a ≤ 3
  · have h' : a = 1 ∨ a = 2 ∨ a = 3 := by omega
    rcases h' with rfl | rfl | rfl <;> decide +kernel
  · simp [h]

end Go.Proofs.Ythepfcpapehdpaa.Pure
