/- The pure statement of FnExactScaleTempo: over numbers and lists alone. -/
import Derived.Test.YtinbdgngpkbgcaaSay
import Derived.Test.YtinbdgngpkbgcaaScale
import Derived.Test.YtinbdgngpkbgcaaHelpTempo
import Derived.Test.YtinbdgngpkbgcaaMarkTempo
import Derived.Test.YtinbdgngpkbgcaaF18
namespace Go.Proofs.Ytinbdgngpkbgcaa.Pure
open Go.RowKit Go.Proofs.Ytinbdgngpkbgcaa.F Go.Proofs.Ytinbdgngpkbgcaa.Opened Go.Proofs.YtinbdgngpkbgcaaW.PrintWords Go.Proofs.YtinbdgngpkbgcaaW.PrintLast Go.Proofs.YtinbdgngpkbgcaaW.PrintMore
set_option linter.unusedVariables false
set_option linter.unusedSimpArgs false
attribute [local congr] bind_left

/-- The pure statement of laws_FnExactScaleTempo. -/
def Pure_FnExactScaleTempo : Prop := ∀ (l0 : List S76) (a1 : Int), l0.length ≤ 9223372036854775807 → (∀ x ∈ l0, Good76 x) → I64 a1 → ∃ k, laws_FnExactScaleTempo.f k l0 a1 = some true

theorem pure_FnExactScaleTempo : Pure_FnExactScaleTempo := by
  intro l0 a1 hl0 hg0 ha1
  by_cases hb0 : 1048576 < l0.length
  · refine ⟨0, ?_⟩
    unfold laws_FnExactScaleTempo.f
    rw [laws_szTempoS.ok l0 _ hl0 (by omega) (by omega), if_pos (by omega)]
    rfl
  have hm0 : l0.length ≤ 1048576 := by omega
  have hs0 : laws_szTempoS.f l0 ((1048576 : Int)) = some ((1048576 : Int) - l0.length) := by
    rw [laws_szTempoS.ok l0 _ hl0 (by omega) (by omega), if_neg (by omega)]
  have hn0 : ¬ ((1048576 : Int) - l0.length < 0) := by omega
  have T0 := fun k hk => laws_toTempoS.ok l0 hm0 k hk
  generalize hx0 : l0.map conv76 = x0 at T0
  have n0 : x0.length = l0.length := by rw [← hx0, List.length_map]
  have kn0 : ¬ ((1 : Int) + 2 * (x0.length : Int) < 0) := by omega
  have rl := scaleT_length x0 a1
  refine ⟨2 * l0.length + 100, ?_⟩
  simp (disch := first | assumption | omega) only [laws_FnExactScaleTempo.f, laws_FnExactScaleTempo.j0, laws_FnExactScaleTempo.j1, laws_FnExactScaleTempo.j2, hs0, hn0, T0, laws_eqTempoS.ok, laws_markTempoS.ok, laws_heldTempoS.ok, spec_ScaleTempo.ok, impl_ScaleTempo.ok, kn0, rl, eq_self, Option.bind_some, ↓reduceIte, if_true, if_false, decide_true, decide_false, Bool.not_true, Bool.not_false, bne_self_eq_false, Bool.false_eq_true, not_true_eq_false, Int.reduceLT]

end Go.Proofs.Ytinbdgngpkbgcaa.Pure
