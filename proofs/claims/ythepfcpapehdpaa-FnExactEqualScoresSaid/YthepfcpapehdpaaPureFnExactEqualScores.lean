/- The pure statement of FnExactEqualScores: over numbers and lists alone. -/
import Derived.Test.YthepfcpapehdpaaSay
import Derived.Test.YthepfcpapehdpaaHelpEvent
import Derived.Test.YthepfcpapehdpaaF66
import Derived.Test.YthepfcpapehdpaaF59
import Derived.Test.YthepfcpapehdpaaF63
import Derived.Test.YthepfcpapehdpaaF62
namespace Go.Proofs.Ythepfcpapehdpaa.Pure
open Go.RowKit Go.Proofs.Ythepfcpapehdpaa.F Go.Proofs.Ythepfcpapehdpaa.Opened Go.Proofs.YthepfcpapehdpaaW.PrintWords Go.Proofs.YthepfcpapehdpaaW.PrintLast Go.Proofs.YthepfcpapehdpaaW.PrintMore
set_option linter.unusedVariables false
set_option linter.unusedSimpArgs false

/-- The pure statement of laws_FnExactEqualScores. -/
def Pure_FnExactEqualScores : Prop := ∀ (l0 : List S88) (l1 : List S88), l0.length ≤ 9223372036854775807 → (∀ x ∈ l0, Good88 x) → l1.length ≤ 9223372036854775807 → (∀ x ∈ l1, Good88 x) → ∃ k, laws_FnExactEqualScores.f k l0 l1 = some true

theorem EqualScores_both (x y : List S86) (hm : x.length ≤ 1048576) (hxy : x.length = y.length) : ∀ (d k : Nat) (i : Int), 0 ≤ i → (x.length : Int) - i ≤ d → d < k → ∃ r, spec_EqualScores.l0 k x y i = some r ∧ impl_Event.l0 k x y x.length i = some r := by
  intro d
  induction d with
  | zero =>
    intro k i h0 hd hk
    obtain ⟨k, rfl⟩ : ∃ m, k = m + 1 := ⟨k - 1, by omega⟩
    simp only [spec_EqualScores.l0, impl_Event.l0]
    rw [if_neg (by omega), if_neg (by omega)]
    exact ⟨true, rfl, rfl⟩
  | succ d ih =>
    intro k i h0 hd hk
    obtain ⟨k, rfl⟩ : ∃ m, k = m + 1 := ⟨k - 1, by omega⟩
    simp only [spec_EqualScores.l0, impl_Event.l0]
    by_cases hlt : i < (x.length : Int)
    · have hlt2 : i < (y.length : Int) := by omega
      simp only [if_pos hlt, if_pos hlt2, if_pos h0]
      rw [w1i h0 hlt (by omega)]
      split
      · exact ⟨false, rfl, rfl⟩
      · exact ih k _ (by omega) (by omega) (by omega)
    · simp only [if_neg hlt]
      exact ⟨true, rfl, rfl⟩
theorem EqualScores_same (x y : List S86) (hm : x.length ≤ 1048576) (k : Nat) (hk : x.length < k) : ∃ r, spec_EqualScores.f k x y = some r ∧ impl_EqualScores.f k x y = some r := by
  unfold spec_EqualScores.f impl_EqualScores.f impl_Event.f
  by_cases h : (x.length : Int) = y.length
  · simp only [if_pos h]
    obtain ⟨r, h1, h2⟩ := EqualScores_both x y hm (by omega) x.length k 0 (by omega) (by omega) hk
    exact ⟨r, h1, by rw [h2]; rfl⟩
  · simp only [if_neg h]
    exact ⟨false, rfl, rfl⟩
theorem pure_FnExactEqualScores : Pure_FnExactEqualScores := by
  intro l l' hl hg hl' hg'
  by_cases hbig : 1048576 < l.length
  · refine ⟨0, ?_⟩
    unfold laws_FnExactEqualScores.f
    rw [laws_szEventS.ok l 1048576 hl (by omega) (by omega), if_pos (by omega)]
    rfl
  by_cases hbig' : 1048576 < l.length + l'.length
  · refine ⟨0, ?_⟩
    unfold laws_FnExactEqualScores.f
    rw [laws_szEventS.ok l 1048576 hl (by omega) (by omega), if_neg (by omega)]
    simp only [Option.bind_some]
    rw [if_neg (by omega), laws_szEventS.ok l' _ hl' (by omega) (by omega), if_pos (by omega)]
    rfl
  · have hm : l.length ≤ 1048576 := by omega
    have hm' : l'.length ≤ 1048576 := by omega
    obtain ⟨r, h1, h2⟩ := EqualScores_same (l.map conv88) (l'.map conv88) (by simpa using hm) (l.length + l'.length + 1) (by rw [List.length_map]; omega)
    refine ⟨l.length + l'.length + 1, ?_⟩
    unfold laws_FnExactEqualScores.f
    rw [laws_szEventS.ok l 1048576 hl (by omega) (by omega), if_neg (by omega)]
    simp only [Option.bind_some]
    rw [if_neg (by omega), laws_szEventS.ok l' _ hl' (by omega) (by omega), if_neg (by omega)]
    simp only [Option.bind_some]
    rw [if_neg (by omega)]
    simp only [laws_toEventS.ok l hm (l.length + l'.length + 1) (by omega), laws_toEventS.ok l' hm' (l.length + l'.length + 1) (by omega), Option.bind_some, h1, h2, laws_eqEventS.ok (l.map conv88) (by rw [List.length_map]; omega) (l.length + l'.length + 1) (by rw [List.length_map]; omega), laws_eqEventS.ok (l'.map conv88) (by rw [List.length_map]; omega) (l.length + l'.length + 1) (by rw [List.length_map]; omega)]
    simp

end Go.Proofs.Ythepfcpapehdpaa.Pure
