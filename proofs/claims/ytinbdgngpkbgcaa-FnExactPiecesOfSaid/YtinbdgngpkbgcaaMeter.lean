/- Meters: what the functions on meters come to, the same on both sides. -/
import Derived.Test.YtinbdgngpkbgcaaInts
import Derived.Test.YtinbdgngpkbgcaaF71
import Derived.Test.YtinbdgngpkbgcaaF77
import Derived.Test.YtinbdgngpkbgcaaF72
import Derived.Test.YtinbdgngpkbgcaaF78
import Derived.Test.YtinbdgngpkbgcaaF73
import Derived.Test.YtinbdgngpkbgcaaF79
namespace Go.Proofs.Ytinbdgngpkbgcaa.F
open Go.RowKit Go.Proofs.Ytinbdgngpkbgcaa.Opened Go.Proofs.YtinbdgngpkbgcaaW.PrintWords Go.Proofs.YtinbdgngpkbgcaaW.PrintLast Go.Proofs.YtinbdgngpkbgcaaW.PrintMore
set_option linter.unusedVariables false
set_option linter.unusedSimpArgs false
/-- A valid meter. -/
def isMeter (a b : Int) : Prop := (1 ≤ a ∧ a ≤ 12) ∧ (b = 1 ∨ b = 2 ∨ b = 4 ∨ b = 8)
instance (a b : Int) : Decidable (isMeter a b) := by unfold isMeter; infer_instance
theorem spec_IsMeter.ok (a b : Int) : spec_IsMeter.f a b = some (decide (isMeter a b)) := by
  unfold spec_IsMeter.f isMeter
  rw [spec_l1In.ok]
  simp only [Option.bind_some]
  by_cases h : 1 ≤ a ∧ a ≤ 12
  · by_cases h1 : b = 1
    · simp [h, h1]
    · by_cases h2 : b = 2
      · simp [h, h2]
      · by_cases h4 : b = 4
        · simp [h, h4]
        · by_cases h8 : b = 8
          · simp [h, h8]
          · simp [h, h1, h2, h4, h8]
  · simp [h]
theorem impl_IsMeter.ok (a b : Int) : impl_IsMeter.f a b = some (decide (isMeter a b)) := by
  rw [← spec_IsMeter.ok]
  unfold impl_IsMeter.f spec_IsMeter.f
  rw [spec_l1In.ok, impl_InRange.ok]
/-- The ticks of a beat. -/
def beatOf (b : Int) : Int := Int.tdiv 48 b
theorem beat_bd {a b : Int} (h : isMeter a b) : 6 ≤ beatOf b ∧ beatOf b ≤ 48 := by
  obtain ⟨_, rfl | rfl | rfl | rfl⟩ := h <;> decide
theorem beat_wrap {a b : Int} (h : isMeter a b) : wrap64 (Int.tdiv 48 b) = beatOf b := by
  have hb := beat_bd h
  show wrap64 (beatOf b) = beatOf b
  exact wid (by omega) (by omega)
theorem meter_ne {a b : Int} (h : isMeter a b) : b ≠ 0 := by
  obtain ⟨_, rfl | rfl | rfl | rfl⟩ := h <;> decide
theorem spec_l10Beat.ok {a b : Int} (h : isMeter a b) : spec_l10Beat.f a b = some (beatOf b) := by
  unfold spec_l10Beat.f
  rw [if_neg (meter_ne h), beat_wrap h]
theorem impl_Meter_beat.ok {a b : Int} (h : isMeter a b) : impl_Meter_beat.f a b = some (beatOf b) := by
  unfold impl_Meter_beat.f
  rw [if_neg (meter_ne h), beat_wrap h]
/-- The ticks of a bar. -/
def barOf (a b : Int) : Int := if isMeter a b then a * beatOf b else 0
theorem bar_eq {a b : Int} (h : isMeter a b) : barOf a b = a * beatOf b := if_pos h
theorem bar_bd {a b : Int} (h : isMeter a b) : 6 ≤ barOf a b ∧ barOf a b ≤ 576 := by
  rw [bar_eq h]
  have e : beatOf 1 = 48 ∧ beatOf 2 = 24 ∧ beatOf 4 = 12 ∧ beatOf 8 = 6 := by decide
  obtain ⟨e1, e2, e4, e8⟩ := e
  obtain ⟨⟨h1, h2⟩, rfl | rfl | rfl | rfl⟩ := h <;> simp only [e1, e2, e4, e8] <;> omega
theorem bar_wrap {a b : Int} (h : isMeter a b) : wrap64 (a * beatOf b) = barOf a b := by
  have := bar_bd h
  rw [bar_eq h] at *
  unfold wrap64
  omega
theorem spec_BarLong.ok (a b : Int) : spec_BarLong.f a b = some (barOf a b) := by
  unfold spec_BarLong.f
  rw [spec_IsMeter.ok]
  by_cases h : isMeter a b
  · simp [h, spec_l10Beat.ok h, bar_wrap h]
  · simp [h, barOf]
theorem impl_BarLong.ok (a b : Int) : impl_BarLong.f a b = some (barOf a b) := by
  unfold impl_BarLong.f
  rw [impl_IsMeter.ok]
  by_cases h : isMeter a b
  · simp [h, impl_Meter_beat.ok h, bar_wrap h]
  · simp [h, barOf]
end Go.Proofs.Ytinbdgngpkbgcaa.F
