/- The pure statement of FnExactTimeOf: over numbers and lists alone. -/
import Derived.Test.YtinbdgngpkbgcaaSay
import Derived.Test.YtinbdgngpkbgcaaTime
import Derived.Test.YtinbdgngpkbgcaaHelpTempo
import Derived.Test.YtinbdgngpkbgcaaF33
import Derived.Test.YtinbdgngpkbgcaaF32
namespace Go.Proofs.Ytinbdgngpkbgcaa.Pure
open Go.RowKit Go.Proofs.Ytinbdgngpkbgcaa.F Go.Proofs.Ytinbdgngpkbgcaa.Opened Go.Proofs.YtinbdgngpkbgcaaW.PrintWords Go.Proofs.YtinbdgngpkbgcaaW.PrintLast Go.Proofs.YtinbdgngpkbgcaaW.PrintMore
set_option linter.unusedVariables false
set_option linter.unusedSimpArgs false
attribute [local congr] bind_left

/-- The pure statement of laws_FnExactTimeOf. -/
def Pure_FnExactTimeOf : Prop := ∀ (l0 : List S76) (a1 : Int), l0.length ≤ 9223372036854775807 → (∀ x ∈ l0, Good76 x) → I64 a1 → ∃ k, laws_FnExactTimeOf.f k l0 a1 = some true

theorem pure_FnExactTimeOf : Pure_FnExactTimeOf := by
  intro l0 a1 hl0 hg0 ha1
  by_cases hb0 : 1048576 < l0.length
  · refine ⟨0, ?_⟩
    unfold laws_FnExactTimeOf.f
    rw [laws_szTempoS.ok l0 _ hl0 (by omega) (by omega), if_pos (by omega)]
    rfl
  have hm0 : l0.length ≤ 1048576 := by omega
  have hs0 : laws_szTempoS.f l0 ((1048576 : Int)) = some ((1048576 : Int) - l0.length) := by
    rw [laws_szTempoS.ok l0 _ hl0 (by omega) (by omega), if_neg (by omega)]
  have hn0 : ¬ ((1048576 : Int) - l0.length < 0) := by omega
  have T0 := fun k hk => laws_toTempoS.ok l0 hm0 k hk
  generalize hx0 : l0.map conv76 = x0 at T0
  have n0 : x0.length = l0.length := by rw [← hx0, List.length_map]
  obtain ⟨K, hK⟩ : ∃ K : Nat, 3 * l0.length + 1000000000000100 ≤ K := ⟨_, Nat.le_refl _⟩
  refine ⟨K + 10, ?_⟩
  simp (disch := first | assumption | omega) only [laws_FnExactTimeOf.f, laws_FnExactTimeOf.j0, hs0, hn0, T0, laws_eqTempoS.ok, spec_TimeOf.ok, impl_TimeOf.ok, laws_eqRatio.f, Option.bind_some, ↓reduceIte, if_true, if_false, decide_true, decide_false, Bool.not_true, Bool.not_false, bne_self_eq_false, Bool.false_eq_true, not_true_eq_false, Int.reduceLT]

end Go.Proofs.Ytinbdgngpkbgcaa.Pure
