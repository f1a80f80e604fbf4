/- The pure statement of FnExactTickOf: over numbers and lists alone. -/
import Derived.Test.YthepfcpapehdpaaSay
import Derived.Test.YthepfcpapehdpaaMeter
import Derived.Test.YthepfcpapehdpaaF22
namespace Go.Proofs.Ythepfcpapehdpaa.Pure
open Go.RowKit Go.Proofs.Ythepfcpapehdpaa.F Go.Proofs.Ythepfcpapehdpaa.Opened Go.Proofs.YthepfcpapehdpaaW.PrintWords Go.Proofs.YthepfcpapehdpaaW.PrintLast Go.Proofs.YthepfcpapehdpaaW.PrintMore
set_option linter.unusedVariables false
set_option linter.unusedSimpArgs false

/-- The pure statement of laws_FnExactTickOf. -/
def Pure_FnExactTickOf : Prop := ∀ (a0_0 : Int) (a0_1 : Int) (a1 : Int) (a2 : Int), I64 a0_0 → I64 a0_1 → I64 a1 → I64 a2 → ∃ k, laws_FnExactTickOf.f k a0_0 a0_1 a1 a2 = some true

theorem pure_FnExactTickOf : Pure_FnExactTickOf := by
  intro a b t u ha hb ht hu
  refine ⟨1, ?_⟩
  unfold laws_FnExactTickOf.f
  simp only [laws_toMeter.f, Option.bind_some, spec_TickOf.f, impl_TickOf.f, spec_IsMeter.ok, impl_IsMeter.ok, spec_l1In.ok, impl_InRange.ok]
  by_cases h : isMeter a b
  · by_cases h2 : 1 ≤ t ∧ t ≤ 500
    · by_cases h3 : 1 ≤ u ∧ u ≤ a
      · simp only [h, h2, h3, spec_TickOf.j0, impl_TickOf.j0, spec_BarLong.ok, impl_BarLong.ok, spec_l10Beat.ok h, impl_Meter_beat.ok h, decide_true, if_true, Option.bind_some, and_self, Bool.not_true, Bool.false_eq_true, if_false]
        split <;> simp
      · simp [h, h2, h3, spec_TickOf.j0, impl_TickOf.j0]
    · simp [h, h2, spec_TickOf.j0, impl_TickOf.j0]
  · simp [h, spec_TickOf.j0, impl_TickOf.j0]

end Go.Proofs.Ythepfcpapehdpaa.Pure
