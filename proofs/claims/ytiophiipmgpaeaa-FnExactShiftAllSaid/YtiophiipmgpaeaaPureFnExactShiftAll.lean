/- The pure statement of FnExactShiftAll: over numbers and lists alone. -/
import Derived.Test.YtiophiipmgpaeaaSay
import Derived.Test.YtiophiipmgpaeaaGaps
import Derived.Test.YtiophiipmgpaeaaHelpPlayed
import Derived.Test.YtiophiipmgpaeaaMarkPlayed
import Derived.Test.YtiophiipmgpaeaaF36
namespace Go.Proofs.Ytiophiipmgpaeaa.Pure
open Go.RowKit Go.Proofs.Ytiophiipmgpaeaa.F Go.Proofs.Ytiophiipmgpaeaa.Opened Go.Proofs.YtiophiipmgpaeaaW.PrintWords Go.Proofs.YtiophiipmgpaeaaW.PrintLast Go.Proofs.YtiophiipmgpaeaaW.PrintMore
set_option linter.unusedVariables false
set_option linter.unusedSimpArgs false
attribute [local congr] bind_left

/-- The pure statement of laws_FnExactShiftAll. -/
def Pure_FnExactShiftAll : Prop := ∀ (l0 : List S111) (a1 : Int), l0.length ≤ 9223372036854775807 → (∀ x ∈ l0, Good111 x) → I64 a1 → ∃ k, laws_FnExactShiftAll.f k l0 a1 = some true

theorem pure_FnExactShiftAll : Pure_FnExactShiftAll := by
  intro l0 a1 hl0 hg0 ha1
  by_cases hb0 : 1048576 < l0.length
  · refine ⟨0, ?_⟩
    unfold laws_FnExactShiftAll.f
    rw [laws_szPlayedS.ok l0 _ hl0 (by omega) (by omega), if_pos (by omega)]
    rfl
  have hm0 : l0.length ≤ 1048576 := by omega
  have hs0 : laws_szPlayedS.f l0 ((1048576 : Int)) = some ((1048576 : Int) - l0.length) := by
    rw [laws_szPlayedS.ok l0 _ hl0 (by omega) (by omega), if_neg (by omega)]
  have hn0 : ¬ ((1048576 : Int) - l0.length < 0) := by omega
  have T0 := fun k hk => laws_toPlayedS.ok l0 hm0 k hk
  generalize hx0 : l0.map conv111 = x0 at T0
  have n0 : x0.length = l0.length := by rw [← hx0, List.length_map]
  have kn0 : ¬ ((1 : Int) + 2 * (x0.length : Int) < 0) := by omega
  have rl := shiftP_length x0 a1
  refine ⟨2 * l0.length + 100, ?_⟩
  simp (disch := first | assumption | omega) only [laws_FnExactShiftAll.f, laws_FnExactShiftAll.j0, laws_FnExactShiftAll.j1, laws_FnExactShiftAll.j2, hs0, hn0, T0, laws_eqPlayedS.ok, laws_markPlayedS.ok, laws_heldPlayedS.ok, spec_ShiftAll.ok, impl_ShiftAll.ok, kn0, rl, eq_self, Option.bind_some, ↓reduceIte, if_true, if_false, decide_true, decide_false, Bool.not_true, Bool.not_false, bne_self_eq_false, Bool.false_eq_true, not_true_eq_false, Int.reduceLT]

end Go.Proofs.Ytiophiipmgpaeaa.Pure
