/- The pure statement of FnExactAreSlips: over numbers and lists alone. -/
import Derived.Test.YtiophiipmgpaeaaSay
import Derived.Test.YtiophiipmgpaeaaSlips
import Derived.Test.YtiophiipmgpaeaaHelpSlip
import Derived.Test.YtiophiipmgpaeaaF10
namespace Go.Proofs.Ytiophiipmgpaeaa.Pure
open Go.RowKit Go.Proofs.Ytiophiipmgpaeaa.F Go.Proofs.Ytiophiipmgpaeaa.Opened Go.Proofs.YtiophiipmgpaeaaW.PrintWords Go.Proofs.YtiophiipmgpaeaaW.PrintLast Go.Proofs.YtiophiipmgpaeaaW.PrintMore
set_option linter.unusedVariables false
set_option linter.unusedSimpArgs false
attribute [local congr] bind_left

/-- The pure statement of laws_FnExactAreSlips. -/
def Pure_FnExactAreSlips : Prop := ∀ (l0 : List S105) (a1 : Int), l0.length ≤ 9223372036854775807 → (∀ x ∈ l0, Good105 x) → I64 a1 → ∃ k, laws_FnExactAreSlips.f k l0 a1 = some true

theorem pure_FnExactAreSlips : Pure_FnExactAreSlips := by
  intro l0 a1 hl0 hg0 ha1
  by_cases hb0 : 1048576 < l0.length
  · refine ⟨0, ?_⟩
    unfold laws_FnExactAreSlips.f
    rw [laws_szSlipS.ok l0 _ hl0 (by omega) (by omega), if_pos (by omega)]
    rfl
  have hm0 : l0.length ≤ 1048576 := by omega
  have hs0 : laws_szSlipS.f l0 ((1048576 : Int)) = some ((1048576 : Int) - l0.length) := by
    rw [laws_szSlipS.ok l0 _ hl0 (by omega) (by omega), if_neg (by omega)]
  have hn0 : ¬ ((1048576 : Int) - l0.length < 0) := by omega
  have T0 := fun k hk => laws_toSlipS.ok l0 hm0 k hk
  generalize hx0 : l0.map conv105 = x0 at T0
  have n0 : x0.length = l0.length := by rw [← hx0, List.length_map]
  refine ⟨2 * l0.length + 100, ?_⟩
  simp (disch := first | assumption | omega) only [laws_FnExactAreSlips.f, hs0, hn0, T0, laws_eqSlipS.ok, spec_AreSlips.ok, impl_AreSlips.ok, Option.bind_some, ↓reduceIte, if_true, if_false, decide_true, decide_false, Bool.not_true, Bool.not_false, bne_self_eq_false, Bool.false_eq_true, not_true_eq_false, Int.reduceLT]

end Go.Proofs.Ytiophiipmgpaeaa.Pure
