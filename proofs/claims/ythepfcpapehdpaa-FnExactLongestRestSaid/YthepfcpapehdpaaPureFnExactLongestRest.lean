/- The pure statement of FnExactLongestRest: over numbers and lists alone. -/
import Derived.Test.YthepfcpapehdpaaSay
import Derived.Test.YthepfcpapehdpaaInts
import Derived.Test.YthepfcpapehdpaaHelpSign
import Derived.Test.YthepfcpapehdpaaF54
import Derived.Test.YthepfcpapehdpaaF52
import Derived.Test.YthepfcpapehdpaaF53
namespace Go.Proofs.Ythepfcpapehdpaa.Pure
open Go.RowKit Go.Proofs.Ythepfcpapehdpaa.F Go.Proofs.Ythepfcpapehdpaa.Opened Go.Proofs.YthepfcpapehdpaaW.PrintWords Go.Proofs.YthepfcpapehdpaaW.PrintLast Go.Proofs.YthepfcpapehdpaaW.PrintMore
set_option linter.unusedVariables false
set_option linter.unusedSimpArgs false

/-- The pure statement of laws_FnExactLongestRest. -/
def Pure_FnExactLongestRest : Prop := ∀ (l0 : List S82), l0.length ≤ 9223372036854775807 → (∀ x ∈ l0, Good82 x) → ∃ k, laws_FnExactLongestRest.f k l0 = some true

theorem LongestRest_both (x : List S80) (hm : x.length ≤ 1048576) : ∀ (d k : Nat) (acc i : Int), 0 ≤ i → (x.length : Int) - i ≤ d → d < k → ∃ r, spec_LongestRest.l0 k x acc i = some r ∧ impl_LongestRest.l0 k acc x x.length i = some r := by
  intro d
  induction d with
  | zero =>
    intro k acc i h0 hd hk
    obtain ⟨k, rfl⟩ : ∃ m, k = m + 1 := ⟨k - 1, by omega⟩
    simp only [spec_LongestRest.l0, impl_LongestRest.l0]
    rw [if_neg (by omega), if_neg (by omega)]
    exact ⟨acc, rfl, rfl⟩
  | succ d ih =>
    intro k acc i h0 hd hk
    obtain ⟨k, rfl⟩ : ∃ m, k = m + 1 := ⟨k - 1, by omega⟩
    simp only [spec_LongestRest.l0, impl_LongestRest.l0, spec_Max.ok, Option.bind_some]
    by_cases hlt : i < (x.length : Int)
    · simp only [if_pos hlt, if_pos h0]
      rw [w1i h0 hlt (by omega)]
      by_cases hp : (rd_T80 x i).f2 = 0
      · simp only [if_pos hp]
        exact ih k _ _ (by omega) (by omega) (by omega)
      · simp only [if_neg hp]
        exact ih k _ _ (by omega) (by omega) (by omega)
    · simp only [if_neg hlt]
      exact ⟨acc, rfl, rfl⟩
theorem LongestRest_same (x : List S80) (hm : x.length ≤ 1048576) : ∃ r, spec_LongestRest.f (x.length + 1) x = some r ∧ impl_LongestRest.f (x.length + 1) x = some r :=
  LongestRest_both x hm x.length (x.length + 1) 0 0 (by omega) (by omega) (by omega)

theorem pure_FnExactLongestRest : Pure_FnExactLongestRest := by
  intro l hl hg
  by_cases hbig : 1048576 < l.length
  · refine ⟨0, ?_⟩
    unfold laws_FnExactLongestRest.f
    rw [laws_szSignS.ok l 1048576 hl (by omega) (by omega), if_pos (by omega)]
    rfl
  · have hm : l.length ≤ 1048576 := by omega
    obtain ⟨r, h1, h2⟩ := LongestRest_same (l.map conv82) (by simpa using hm)
    rw [List.length_map] at h1 h2
    refine ⟨l.length + 1, ?_⟩
    unfold laws_FnExactLongestRest.f
    rw [laws_szSignS.ok l 1048576 hl (by omega) (by omega), if_neg (by omega)]
    simp only [Option.bind_some]
    rw [if_neg (by omega)]
    simp only [laws_toSignS.ok l hm (l.length + 1) (by omega), Option.bind_some, h1, h2, laws_eqSignS.ok (l.map conv82) (by rw [List.length_map]; omega) (l.length + 1) (by rw [List.length_map]; omega)]
    simp

end Go.Proofs.Ythepfcpapehdpaa.Pure
