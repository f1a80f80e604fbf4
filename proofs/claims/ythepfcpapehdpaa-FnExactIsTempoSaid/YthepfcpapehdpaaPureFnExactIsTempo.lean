/- The pure statement of FnExactIsTempo: over numbers and lists alone. -/
import Derived.Test.YthepfcpapehdpaaSay
import Derived.Test.YthepfcpapehdpaaTempo
import Derived.Test.YthepfcpapehdpaaHelpTempo
import Derived.Test.YthepfcpapehdpaaF38
namespace Go.Proofs.Ythepfcpapehdpaa.Pure
open Go.RowKit Go.Proofs.Ythepfcpapehdpaa.F Go.Proofs.Ythepfcpapehdpaa.Opened Go.Proofs.YthepfcpapehdpaaW.PrintWords Go.Proofs.YthepfcpapehdpaaW.PrintLast Go.Proofs.YthepfcpapehdpaaW.PrintMore
set_option linter.unusedVariables false
set_option linter.unusedSimpArgs false

/-- The pure statement of laws_FnExactIsTempo. -/
def Pure_FnExactIsTempo : Prop := ∀ (l0 : List S77), l0.length ≤ 9223372036854775807 → (∀ x ∈ l0, Good77 x) → ∃ k, laws_FnExactIsTempo.f k l0 = some true

theorem pure_FnExactIsTempo : Pure_FnExactIsTempo := by
  intro l0 hl0 hg0
  by_cases hb0 : 1048576 < l0.length
  · refine ⟨0, ?_⟩
    unfold laws_FnExactIsTempo.f
    rw [laws_szTempoS.ok l0 _ hl0 (by omega) (by omega), if_pos (by omega)]
    rfl
  have hm0 : l0.length ≤ 1048576 := by omega
  have hs0 : laws_szTempoS.f l0 ((1048576 : Int)) = some ((1048576 : Int) - l0.length) := by
    rw [laws_szTempoS.ok l0 _ hl0 (by omega) (by omega), if_neg (by omega)]
  have hn0 : ¬ ((1048576 : Int) - l0.length < 0) := by omega
  have T0 := fun k hk => laws_toTempoS.ok l0 hm0 k hk
  generalize hx0 : l0.map conv77 = x0 at T0
  have n0 : x0.length = l0.length := by rw [← hx0, List.length_map]
  refine ⟨2 * l0.length + 100, ?_⟩
  simp (disch := first | assumption | omega) only [laws_FnExactIsTempo.f, hs0, hn0, T0, laws_eqTempoS.ok, spec_IsTempo.ok, impl_IsTempo.ok, Option.bind_some, ↓reduceIte, if_true, if_false, decide_true, decide_false, Bool.not_true, Bool.not_false, bne_self_eq_false, Bool.false_eq_true, not_true_eq_false, Int.reduceLT]

end Go.Proofs.Ythepfcpapehdpaa.Pure
