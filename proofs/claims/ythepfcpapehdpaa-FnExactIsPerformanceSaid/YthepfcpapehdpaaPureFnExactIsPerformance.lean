/- The pure statement of FnExactIsPerformance: over numbers and lists alone. -/
import Derived.Test.YthepfcpapehdpaaSay
import Derived.Test.YthepfcpapehdpaaPerf
import Derived.Test.YthepfcpapehdpaaHelpPlayed
import Derived.Test.YthepfcpapehdpaaF30
namespace Go.Proofs.Ythepfcpapehdpaa.Pure
open Go.RowKit Go.Proofs.Ythepfcpapehdpaa.F Go.Proofs.Ythepfcpapehdpaa.Opened Go.Proofs.YthepfcpapehdpaaW.PrintWords Go.Proofs.YthepfcpapehdpaaW.PrintLast Go.Proofs.YthepfcpapehdpaaW.PrintMore
set_option linter.unusedVariables false
set_option linter.unusedSimpArgs false

/-- The pure statement of laws_FnExactIsPerformance. -/
def Pure_FnExactIsPerformance : Prop := ∀ (l0 : List S72), l0.length ≤ 9223372036854775807 → (∀ x ∈ l0, Good72 x) → ∃ k, laws_FnExactIsPerformance.f k l0 = some true

theorem pure_FnExactIsPerformance : Pure_FnExactIsPerformance := by
  intro l0 hl0 hg0
  by_cases hb0 : 1048576 < l0.length
  · refine ⟨0, ?_⟩
    unfold laws_FnExactIsPerformance.f
    rw [laws_szPlayedS.ok l0 _ hl0 (by omega) (by omega), if_pos (by omega)]
    rfl
  have hm0 : l0.length ≤ 1048576 := by omega
  have hs0 : laws_szPlayedS.f l0 ((1048576 : Int)) = some ((1048576 : Int) - l0.length) := by
    rw [laws_szPlayedS.ok l0 _ hl0 (by omega) (by omega), if_neg (by omega)]
  have hn0 : ¬ ((1048576 : Int) - l0.length < 0) := by omega
  have T0 := fun k hk => laws_toPlayedS.ok l0 hm0 k hk
  generalize hx0 : l0.map conv72 = x0 at T0
  have n0 : x0.length = l0.length := by rw [← hx0, List.length_map]
  refine ⟨2 * l0.length + 100, ?_⟩
  simp (disch := first | assumption | omega) only [laws_FnExactIsPerformance.f, hs0, hn0, T0, laws_eqPlayedS.ok, spec_IsPerformance.ok, impl_IsPerformance.ok, Option.bind_some, ↓reduceIte, if_true, if_false, decide_true, decide_false, Bool.not_true, Bool.not_false, bne_self_eq_false, Bool.false_eq_true, not_true_eq_false, Int.reduceLT]

end Go.Proofs.Ythepfcpapehdpaa.Pure
