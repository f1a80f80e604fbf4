/- The pure statement of FnExactEventsOf: over numbers and lists alone. -/
import Derived.Test.YtiophiipmgpaeaaSay
import Derived.Test.YtiophiipmgpaeaaPart
import Derived.Test.YtiophiipmgpaeaaHelpSign
import Derived.Test.YtiophiipmgpaeaaMarkSign
import Derived.Test.YtiophiipmgpaeaaMarkEvent
import Derived.Test.YtiophiipmgpaeaaHelpEvent
import Derived.Test.YtiophiipmgpaeaaF51
namespace Go.Proofs.Ytiophiipmgpaeaa.Pure
open Go.RowKit Go.Proofs.Ytiophiipmgpaeaa.F Go.Proofs.Ytiophiipmgpaeaa.Opened Go.Proofs.YtiophiipmgpaeaaW.PrintWords Go.Proofs.YtiophiipmgpaeaaW.PrintLast Go.Proofs.YtiophiipmgpaeaaW.PrintMore
set_option linter.unusedVariables false
set_option linter.unusedSimpArgs false
attribute [local congr] bind_left

/-- The pure statement of laws_FnExactEventsOf. -/
def Pure_FnExactEventsOf : Prop := ∀ (l0 : List S120) (a1 : Int), l0.length ≤ 9223372036854775807 → (∀ x ∈ l0, Good120 x) → I64 a1 → ∃ k, laws_FnExactEventsOf.f k l0 a1 = some true

theorem pure_FnExactEventsOf : Pure_FnExactEventsOf := by
  intro l0 a1 hl0 hg0 ha1
  by_cases hb0 : 1048576 < l0.length
  · refine ⟨0, ?_⟩
    unfold laws_FnExactEventsOf.f
    rw [laws_szSignS.ok l0 _ hl0 (by omega) (by omega), if_pos (by omega)]
    rfl
  have hm0 : l0.length ≤ 1048576 := by omega
  have hs0 : laws_szSignS.f l0 ((1048576 : Int)) = some ((1048576 : Int) - l0.length) := by
    rw [laws_szSignS.ok l0 _ hl0 (by omega) (by omega), if_neg (by omega)]
  have hn0 : ¬ ((1048576 : Int) - l0.length < 0) := by omega
  have T0 := fun k hk => laws_toSignS.ok l0 hm0 k hk
  generalize hx0 : l0.map conv120 = x0 at T0
  have n0 : x0.length = l0.length := by rw [← hx0, List.length_map]
  have kn0 : ¬ ((1 : Int) + 3 * (x0.length : Int) < 0) := by omega
  have rl := evsOf_length x0 a1
  have kn1 : ¬ ((1 : Int) + 4 * ((evsOf x0 a1).length : Int) < 0) := by omega
  refine ⟨3 * l0.length + 100, ?_⟩
  simp (disch := first | assumption | omega) only [laws_FnExactEventsOf.f, laws_FnExactEventsOf.j0, hs0, hn0, T0, laws_eqSignS.ok, laws_markSignS.ok, laws_eqEventS.ok, laws_markEventS.ok, laws_heldEventS.ok, spec_EventsOf.ok, impl_EventsOf.ok, kn0, kn1, eq_self, Option.bind_some, ↓reduceIte, if_true, if_false, decide_true, decide_false, Bool.not_true, Bool.not_false, bne_self_eq_false, Bool.false_eq_true, not_true_eq_false, Int.reduceLT]

end Go.Proofs.Ytiophiipmgpaeaa.Pure
