/- The pure statement of FnExactIsPart: over numbers and lists alone. -/
import Derived.Test.YthepfcpapehdpaaSay
import Derived.Test.YthepfcpapehdpaaInts
import Derived.Test.YthepfcpapehdpaaHelpSign
import Derived.Test.YthepfcpapehdpaaF57
import Derived.Test.YthepfcpapehdpaaF55
import Derived.Test.YthepfcpapehdpaaF56
namespace Go.Proofs.Ythepfcpapehdpaa.Pure
open Go.RowKit Go.Proofs.Ythepfcpapehdpaa.F Go.Proofs.Ythepfcpapehdpaa.Opened Go.Proofs.YthepfcpapehdpaaW.PrintWords Go.Proofs.YthepfcpapehdpaaW.PrintLast Go.Proofs.YthepfcpapehdpaaW.PrintMore
set_option linter.unusedVariables false
set_option linter.unusedSimpArgs false

/-- The pure statement of laws_FnExactIsPart. -/
def Pure_FnExactIsPart : Prop := ∀ (l0 : List S82), l0.length ≤ 9223372036854775807 → (∀ x ∈ l0, Good82 x) → ∃ k, laws_FnExactIsPart.f k l0 = some true

theorem IsPart_both (x : List S80) (hm : x.length ≤ 1048576) : ∀ (d k : Nat) (acc i : Int), 0 ≤ i → (x.length : Int) - i ≤ d → d < k → ∃ r, spec_IsPart.l0 k x acc i = some r ∧ impl_IsPart.l0 k x acc x x.length i = some r := by
  intro d
  induction d with
  | zero =>
    intro k acc i h0 hd hk
    obtain ⟨k, rfl⟩ : ∃ m, k = m + 1 := ⟨k - 1, by omega⟩
    simp only [spec_IsPart.l0, impl_IsPart.l0]
    rw [if_neg (by omega), if_neg (by omega)]
    exact ⟨true, rfl, rfl⟩
  | succ d ih =>
    intro k acc i h0 hd hk
    obtain ⟨k, rfl⟩ : ∃ m, k = m + 1 := ⟨k - 1, by omega⟩
    simp only [spec_IsPart.l0, impl_IsPart.l0, spec_l1In.ok, impl_InRange.ok, Option.bind_some]
    by_cases hlt : i < (x.length : Int)
    · rw [w1i h0 hlt (by omega)]
      have ih' := fun a => ih k a (i + 1) (by omega) (by omega) (by omega)
      simp only [hlt, h0, if_true]
      by_cases c1 : (rd_T80 x i).f0 = acc
      · by_cases c2 : 1 ≤ (rd_T80 x i).f1 ∧ (rd_T80 x i).f1 ≤ 3000
        · by_cases c3 : (rd_T80 x i).f2 = 0
          · by_cases c4 : i > 0
            · have c5 : wrap64 (i - 1) = i - 1 := by unfold wrap64; omega
              have c6 : 0 ≤ i - 1 := by omega
              have c7 : i - 1 < (x.length : Int) := by omega
              by_cases c8 : (rd_T80 x (i - 1)).f2 = 0
              · simp only [c1, c2, c3, c4, c5, c6, c7, c8, if_true, and_self, decide_true]
                first | exact ⟨false, rfl, rfl⟩ | exact ⟨false, rfl⟩
              · simp only [c1, c2, c3, c4, c5, c6, c7, c8, if_true, if_false, and_self, decide_true]
                first | exact ih' _ | (obtain ⟨r, h1, h2⟩ := ih' _; exact ⟨r, h1, h2⟩)
            · simp only [c1, c2, c3, c4, if_true, if_false, and_self, decide_true]
              first | exact ih' _ | (obtain ⟨r, h1, h2⟩ := ih' _; exact ⟨r, h1, h2⟩)
          · by_cases c4 : 21 ≤ (rd_T80 x i).f2 ∧ (rd_T80 x i).f2 ≤ 108
            · by_cases c5 : (rd_T80 x i).f1 > 96
              · simp only [c1, c2, c3, c4, c5, if_true, if_false, and_self, decide_true]
                first | exact ⟨false, rfl, rfl⟩ | exact ⟨false, rfl⟩
              · simp only [c1, c2, c3, c4, c5, if_true, if_false, and_self, decide_true, ite_self]
                first | exact ih' _ | (obtain ⟨r, h1, h2⟩ := ih' _; exact ⟨r, h1, h2⟩)
            · simp only [c1, c2, c3, c4, if_true, if_false, and_self, decide_true, decide_false, Bool.false_eq_true]
              first | exact ⟨false, rfl, rfl⟩ | exact ⟨false, rfl⟩
        · simp only [c1, c2, if_true, if_false, decide_false, Bool.false_eq_true]
          first | exact ⟨false, rfl, rfl⟩ | exact ⟨false, rfl⟩
      · simp only [c1, if_false]
        first | exact ⟨false, rfl, rfl⟩ | exact ⟨false, rfl⟩
    · simp only [hlt, if_false]
      exact ⟨true, rfl, rfl⟩
theorem IsPart_same (x : List S80) (hm : x.length ≤ 1048576) : ∃ r, spec_IsPart.f (x.length + 1) x = some r ∧ impl_IsPart.f (x.length + 1) x = some r :=
  IsPart_both x hm x.length (x.length + 1) 0 0 (by omega) (by omega) (by omega)

theorem pure_FnExactIsPart : Pure_FnExactIsPart := by
  intro l hl hg
  by_cases hbig : 1048576 < l.length
  · refine ⟨0, ?_⟩
    unfold laws_FnExactIsPart.f
    rw [laws_szSignS.ok l 1048576 hl (by omega) (by omega), if_pos (by omega)]
    rfl
  · have hm : l.length ≤ 1048576 := by omega
    obtain ⟨r, h1, h2⟩ := IsPart_same (l.map conv82) (by simpa using hm)
    rw [List.length_map] at h1 h2
    refine ⟨l.length + 1, ?_⟩
    unfold laws_FnExactIsPart.f
    rw [laws_szSignS.ok l 1048576 hl (by omega) (by omega), if_neg (by omega)]
    simp only [Option.bind_some]
    rw [if_neg (by omega)]
    simp only [laws_toSignS.ok l hm (l.length + 1) (by omega), Option.bind_some, h1, h2, laws_eqSignS.ok (l.map conv82) (by rw [List.length_map]; omega) (l.length + 1) (by rw [List.length_map]; omega)]
    simp

end Go.Proofs.Ythepfcpapehdpaa.Pure
