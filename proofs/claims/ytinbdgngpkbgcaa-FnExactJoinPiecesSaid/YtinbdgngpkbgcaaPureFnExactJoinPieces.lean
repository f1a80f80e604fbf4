/- The pure statement of FnExactJoinPieces: over numbers and lists alone. -/
import Derived.Test.YtinbdgngpkbgcaaSay
import Derived.Test.YtinbdgngpkbgcaaJoin
import Derived.Test.YtinbdgngpkbgcaaHelpPiece
import Derived.Test.YtinbdgngpkbgcaaF91
namespace Go.Proofs.Ytinbdgngpkbgcaa.Pure
open Go.RowKit Go.Proofs.Ytinbdgngpkbgcaa.F Go.Proofs.Ytinbdgngpkbgcaa.Opened Go.Proofs.YtinbdgngpkbgcaaW.PrintWords Go.Proofs.YtinbdgngpkbgcaaW.PrintLast Go.Proofs.YtinbdgngpkbgcaaW.PrintMore
set_option linter.unusedVariables false
set_option linter.unusedSimpArgs false
attribute [local congr] bind_left

/-- The pure statement of laws_FnExactJoinPieces. -/
def Pure_FnExactJoinPieces : Prop := ∀ (l0 : List S100), l0.length ≤ 9223372036854775807 → (∀ x ∈ l0, Good100 x) → ∃ k, laws_FnExactJoinPieces.f k l0 = some true

theorem pure_FnExactJoinPieces : Pure_FnExactJoinPieces := by
  intro l0 hl0 hg0
  by_cases hb0 : 1048576 < l0.length
  · refine ⟨0, ?_⟩
    unfold laws_FnExactJoinPieces.f
    rw [laws_szPieceS.ok l0 _ hl0 (by omega) (by omega), if_pos (by omega)]
    rfl
  have hm0 : l0.length ≤ 1048576 := by omega
  have hs0 : laws_szPieceS.f l0 ((1048576 : Int)) = some ((1048576 : Int) - l0.length) := by
    rw [laws_szPieceS.ok l0 _ hl0 (by omega) (by omega), if_neg (by omega)]
  have hn0 : ¬ ((1048576 : Int) - l0.length < 0) := by omega
  have T0 := fun k hk => laws_toPieceS.ok l0 hm0 k hk
  generalize hx0 : l0.map conv100 = x0 at T0
  have n0 : x0.length = l0.length := by rw [← hx0, List.length_map]
  refine ⟨2 * l0.length + 100, ?_⟩
  simp (disch := first | assumption | omega) only [laws_FnExactJoinPieces.f, laws_FnExactJoinPieces.j0, hs0, hn0, T0, laws_eqPieceS.ok, spec_JoinPieces.ok, impl_JoinPieces.ok, Option.bind_some, ↓reduceIte, if_true, if_false, decide_true, decide_false, Bool.not_true, Bool.not_false, bne_self_eq_false, Bool.false_eq_true, not_true_eq_false, Int.reduceLT]

end Go.Proofs.Ytinbdgngpkbgcaa.Pure
