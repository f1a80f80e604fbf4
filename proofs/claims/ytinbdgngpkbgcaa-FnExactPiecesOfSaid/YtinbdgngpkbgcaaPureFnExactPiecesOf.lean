/- The pure statement of FnExactPiecesOf: over numbers and lists alone. -/
import Derived.Test.YtinbdgngpkbgcaaSay
import Derived.Test.YtinbdgngpkbgcaaPieces
import Derived.Test.YtinbdgngpkbgcaaHelpPiece
import Derived.Test.YtinbdgngpkbgcaaMarkPiece
import Derived.Test.YtinbdgngpkbgcaaF85
namespace Go.Proofs.Ytinbdgngpkbgcaa.Pure
open Go.RowKit Go.Proofs.Ytinbdgngpkbgcaa.F Go.Proofs.Ytinbdgngpkbgcaa.Opened Go.Proofs.YtinbdgngpkbgcaaW.PrintWords Go.Proofs.YtinbdgngpkbgcaaW.PrintLast Go.Proofs.YtinbdgngpkbgcaaW.PrintMore
set_option linter.unusedVariables false
set_option linter.unusedSimpArgs false
attribute [local congr] bind_left

/-- The pure statement of laws_FnExactPiecesOf. -/
def Pure_FnExactPiecesOf : Prop := ∀ (a0_0 : Int) (a0_1 : Int) (a1_0 : Int) (a1_1 : Int) (a1_2 : Int) (a1_3 : Int), I64 a0_0 → I64 a0_1 → I64 a1_0 → I64 a1_1 → I64 a1_2 → I64 a1_3 → ∃ k, laws_FnExactPiecesOf.f k a0_0 a0_1 a1_0 a1_1 a1_2 a1_3 = some true

theorem pure_FnExactPiecesOf : Pure_FnExactPiecesOf := by
  intro a0_0 a0_1 a1_0 a1_1 a1_2 a1_3 ha0_0 ha0_1 ha1_0 ha1_1 ha1_2 ha1_3
  have rl := piecesOf_length a0_0 a0_1 a1_0 a1_1
  have kn1 : ¬ ((1 : Int) + 3 * ((piecesOf a0_0 a0_1 a1_0 a1_1).length : Int) < 0) := by omega
  refine ⟨10000, ?_⟩
  simp (disch := first | assumption | omega) only [laws_FnExactPiecesOf.f, laws_eqPieceS.ok, laws_markPieceS.ok, laws_heldPieceS.ok, laws_toMeter.f, laws_toEvent.f, spec_PiecesOf.ok, impl_PiecesOf.ok, kn1, eq_self, Option.bind_some, ↓reduceIte, if_true, if_false, decide_true, decide_false, Bool.not_true, Bool.not_false, bne_self_eq_false, Bool.false_eq_true, not_true_eq_false, Int.reduceLT]

end Go.Proofs.Ytinbdgngpkbgcaa.Pure
