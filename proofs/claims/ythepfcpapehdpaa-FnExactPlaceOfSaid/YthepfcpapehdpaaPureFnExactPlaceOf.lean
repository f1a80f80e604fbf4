/- The pure statement of FnExactPlaceOf: over numbers and lists alone. -/
import Derived.Test.YthepfcpapehdpaaSay
import Derived.Test.YthepfcpapehdpaaMeter
import Derived.Test.YthepfcpapehdpaaF19
namespace Go.Proofs.Ythepfcpapehdpaa.Pure
open Go.RowKit Go.Proofs.Ythepfcpapehdpaa.F Go.Proofs.Ythepfcpapehdpaa.Opened Go.Proofs.YthepfcpapehdpaaW.PrintWords Go.Proofs.YthepfcpapehdpaaW.PrintLast Go.Proofs.YthepfcpapehdpaaW.PrintMore
set_option linter.unusedVariables false
set_option linter.unusedSimpArgs false

/-- The pure statement of laws_FnExactPlaceOf. -/
def Pure_FnExactPlaceOf : Prop := ∀ (a0_0 : Int) (a0_1 : Int) (a1 : Int), I64 a0_0 → I64 a0_1 → I64 a1 → ∃ k, laws_FnExactPlaceOf.f k a0_0 a0_1 a1 = some true

theorem pure_FnExactPlaceOf : Pure_FnExactPlaceOf := by
  intro a b t ha hb ht
  refine ⟨1, ?_⟩
  unfold laws_FnExactPlaceOf.f
  simp only [laws_toMeter.f, Option.bind_some, spec_PlaceOf.f, impl_PlaceOf.f, spec_IsMeter.ok, impl_IsMeter.ok, spec_l1In.ok, impl_InRange.ok]
  by_cases h : isMeter a b
  · have hb1 := bar_bd h
    have hb2 := beat_bd h
    have e1 : ¬ barOf a b = 0 := by omega
    have e2 : ¬ beatOf b = 0 := by omega
    by_cases h2 : 0 ≤ t ∧ t ≤ 2000
    · simp [h, h2, spec_PlaceOf.j0, impl_PlaceOf.j0, spec_BarLong.ok, impl_BarLong.ok, spec_l10Beat.ok h, impl_Meter_beat.ok h, e1, e2]
    · simp [h, h2, spec_PlaceOf.j0, impl_PlaceOf.j0]
  · simp [h, spec_PlaceOf.j0, impl_PlaceOf.j0]

end Go.Proofs.Ythepfcpapehdpaa.Pure
