/- The pure statement of FnExactVoiceOf: over numbers and lists alone. -/
import Derived.Test.YtmacgllblbeegaaSay
import Derived.Test.YtmacgllblbeegaaVoice
import Derived.Test.YtmacgllblbeegaaHelpEvent
import Derived.Test.YtmacgllblbeegaaMarkEvent
import Derived.Test.YtmacgllblbeegaaF29
namespace Go.Proofs.Ytmacgllblbeegaa.Pure
open Go.RowKit Go.Proofs.Ytmacgllblbeegaa.F Go.Proofs.Ytmacgllblbeegaa.Opened Go.Proofs.YtmacgllblbeegaaW.PrintWords Go.Proofs.YtmacgllblbeegaaW.PrintLast Go.Proofs.YtmacgllblbeegaaW.PrintMore
set_option linter.unusedVariables false
set_option linter.unusedSimpArgs false
attribute [local congr] bind_left

/-- The pure statement of laws_FnExactVoiceOf. -/
def Pure_FnExactVoiceOf : Prop := ∀ (l0 : List S34) (a1 : Int), l0.length ≤ 9223372036854775807 → (∀ x ∈ l0, Good34 x) → I64 a1 → ∃ k, laws_FnExactVoiceOf.f k l0 a1 = some true

theorem pure_FnExactVoiceOf : Pure_FnExactVoiceOf := by
  intro l0 a1 hl0 hg0 ha1
  by_cases hb0 : 1048576 < l0.length
  · refine ⟨0, ?_⟩
    unfold laws_FnExactVoiceOf.f
    rw [laws_szEventS.ok l0 _ hl0 (by omega) (by omega), if_pos (by omega)]
    rfl
  have hm0 : l0.length ≤ 1048576 := by omega
  have hs0 : laws_szEventS.f l0 ((1048576 : Int)) = some ((1048576 : Int) - l0.length) := by
    rw [laws_szEventS.ok l0 _ hl0 (by omega) (by omega), if_neg (by omega)]
  have hn0 : ¬ ((1048576 : Int) - l0.length < 0) := by omega
  have T0 := fun k hk => laws_toEventS.ok l0 hm0 k hk
  generalize hx0 : l0.map conv34 = x0 at T0
  have n0 : x0.length = l0.length := by rw [← hx0, List.length_map]
  have kn0 : ¬ ((1 : Int) + 4 * (x0.length : Int) < 0) := by omega
  have rl := voiceSc_length x0 a1
  have kn1 : ¬ ((1 : Int) + 4 * ((voiceSc x0 a1).length : Int) < 0) := by omega
  refine ⟨2 * l0.length + 100, ?_⟩
  simp (disch := first | assumption | omega) only [laws_FnExactVoiceOf.f, laws_FnExactVoiceOf.j0, hs0, hn0, T0, laws_eqEventS.ok, laws_markEventS.ok, laws_heldEventS.ok, spec_VoiceOf.ok, impl_VoiceOf.ok, kn0, kn1, rl, eq_self, Option.bind_some, ↓reduceIte, if_true, if_false, decide_true, decide_false, Bool.not_true, Bool.not_false, bne_self_eq_false, Bool.false_eq_true, not_true_eq_false, Int.reduceLT]

end Go.Proofs.Ytmacgllblbeegaa.Pure
