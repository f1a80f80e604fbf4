/- The pure statement of FnExactCountReal: over numbers and lists alone. -/
import Derived.Test.YtiophiipmgpaeaaSay
import Derived.Test.YtiophiipmgpaeaaSlips
import Derived.Test.YtiophiipmgpaeaaHelpSlip
import Derived.Test.YtiophiipmgpaeaaHelpInt
import Derived.Test.YtiophiipmgpaeaaF15
namespace Go.Proofs.Ytiophiipmgpaeaa.Pure
open Go.RowKit Go.Proofs.Ytiophiipmgpaeaa.F Go.Proofs.Ytiophiipmgpaeaa.Opened Go.Proofs.YtiophiipmgpaeaaW.PrintWords Go.Proofs.YtiophiipmgpaeaaW.PrintLast Go.Proofs.YtiophiipmgpaeaaW.PrintMore
set_option linter.unusedVariables false
set_option linter.unusedSimpArgs false
attribute [local congr] bind_left

/-- The pure statement of laws_FnExactCountReal. -/
def Pure_FnExactCountReal : Prop := ∀ (l0 : List Int) (l1 : List S105), l0.length ≤ 9223372036854775807 → (∀ x ∈ l0, (Lit.int .i64 x).wf = true) → l1.length ≤ 9223372036854775807 → (∀ x ∈ l1, Good105 x) → ∃ k, laws_FnExactCountReal.f k l0 l1 = some true

theorem pure_FnExactCountReal : Pure_FnExactCountReal := by
  intro l0 l1 hl0 hg0 hl1 hg1
  by_cases hb0 : (l0.length : Int) > 1048576
  · refine ⟨0, ?_⟩
    unfold laws_FnExactCountReal.f
    rw [if_pos hb0]
  by_cases hb1 : 1048576 < l1.length
  · refine ⟨0, ?_⟩
    unfold laws_FnExactCountReal.f
    rw [if_neg hb0]
    rw [laws_szSlipS.ok l1 _ hl1 (by omega) (by omega), if_pos (by omega)]
    rfl
  have hm0 : l0.length ≤ 1048576 := by omega
  have n0 : l0.length = l0.length := rfl
  have hm1 : l1.length ≤ 1048576 := by omega
  have hs1 : laws_szSlipS.f l1 ((1048576 : Int)) = some ((1048576 : Int) - l1.length) := by
    rw [laws_szSlipS.ok l1 _ hl1 (by omega) (by omega), if_neg (by omega)]
  have hn1 : ¬ ((1048576 : Int) - l1.length < 0) := by omega
  have T1 := fun k hk => laws_toSlipS.ok l1 hm1 k hk
  generalize hx1 : l1.map conv105 = x1 at T1
  have n1 : x1.length = l1.length := by rw [← hx1, List.length_map]
  refine ⟨l0.length + 4 * l1.length + 100, ?_⟩
  simp (disch := first | assumption | omega) only [laws_FnExactCountReal.f, hb0, laws_toIntS.ok, laws_eqIntS.ok, hs1, hn1, T1, laws_eqSlipS.ok, spec_CountReal.ok, impl_CountReal.ok, Option.bind_some, ↓reduceIte, if_true, if_false, decide_true, decide_false, Bool.not_true, Bool.not_false, bne_self_eq_false, Bool.false_eq_true, not_true_eq_false, Int.reduceLT]

end Go.Proofs.Ytiophiipmgpaeaa.Pure
