/- The pure statement of FnExactEndOf: over numbers and lists alone. -/
import Derived.Test.YtmacgllblbeegaaSay
import Derived.Test.YtmacgllblbeegaaEnds
import Derived.Test.YtmacgllblbeegaaHelpEvent
import Derived.Test.YtmacgllblbeegaaF21
namespace Go.Proofs.Ytmacgllblbeegaa.Pure
open Go.RowKit Go.Proofs.Ytmacgllblbeegaa.F Go.Proofs.Ytmacgllblbeegaa.Opened Go.Proofs.YtmacgllblbeegaaW.PrintWords Go.Proofs.YtmacgllblbeegaaW.PrintLast Go.Proofs.YtmacgllblbeegaaW.PrintMore
set_option linter.unusedVariables false
set_option linter.unusedSimpArgs false

/-- The pure statement of laws_FnExactEndOf. -/
def Pure_FnExactEndOf : Prop := ∀ (l0 : List S34), l0.length ≤ 9223372036854775807 → (∀ x ∈ l0, Good34 x) → ∃ k, laws_FnExactEndOf.f k l0 = some true

theorem pure_FnExactEndOf : Pure_FnExactEndOf := by
  intro l0 hl0 hg0
  by_cases hb0 : 1048576 < l0.length
  · refine ⟨0, ?_⟩
    unfold laws_FnExactEndOf.f
    rw [laws_szEventS.ok l0 _ hl0 (by omega) (by omega), if_pos (by omega)]
    rfl
  have hm0 : l0.length ≤ 1048576 := by omega
  have hs0 : laws_szEventS.f l0 ((1048576 : Int)) = some ((1048576 : Int) - l0.length) := by
    rw [laws_szEventS.ok l0 _ hl0 (by omega) (by omega), if_neg (by omega)]
  have hn0 : ¬ ((1048576 : Int) - l0.length < 0) := by omega
  have T0 := fun k hk => laws_toEventS.ok l0 hm0 k hk
  generalize hx0 : l0.map conv34 = x0 at T0
  have n0 : x0.length = l0.length := by rw [← hx0, List.length_map]
  refine ⟨2 * l0.length + 100, ?_⟩
  simp (disch := first | assumption | omega) only [laws_FnExactEndOf.f, hs0, hn0, T0, laws_eqEventS.ok, spec_EndOf.ok, impl_EndOf.ok, Option.bind_some, ↓reduceIte, if_true, if_false, decide_true, decide_false, Bool.not_true, Bool.not_false, bne_self_eq_false, Bool.false_eq_true, not_true_eq_false, Int.reduceLT]

end Go.Proofs.Ytmacgllblbeegaa.Pure
