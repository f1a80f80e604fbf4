/- The end of a score. -/
import Derived.Test.YtmacgllblbeegaaScore
import Derived.Test.YtmacgllblbeegaaF19
import Derived.Test.YtmacgllblbeegaaF20
namespace Go.Proofs.Ytmacgllblbeegaa.F
open Go.RowKit Go.Proofs.Ytmacgllblbeegaa.Opened Go.Proofs.YtmacgllblbeegaaW.PrintWords Go.Proofs.YtmacgllblbeegaaW.PrintLast Go.Proofs.YtmacgllblbeegaaW.PrintMore
set_option linter.unusedVariables false
set_option linter.unusedSimpArgs false
def endStep (n : Int) (e : Evt) : Int := mx n (wrap64 (e.f0 + e.f1))
/-- Where a score ends. -/
def endOf (l : List Evt) : Int := if isScoreB l = true then l.foldl endStep 0 else 0
theorem spec_EndOf.loop (l : List Evt) (hm : l.length ≤ 9223372036854775807) : ∀ (d k : Nat) (acc : Int) (n : Nat), l.length - n ≤ d → d + l.length < k → spec_EndOf.l0 k l acc (n : Int) = some (if isScoreB l = true then (l.drop n).foldl endStep acc else acc) := by
  intro d
  induction d with
  | zero =>
    intro k acc n hd hk
    obtain ⟨k, rfl⟩ : ∃ m, k = m + 1 := ⟨k - 1, by omega⟩
    simp only [spec_EndOf.l0]
    rw [if_neg (by omega), List.drop_of_length_le (by omega)]
    simp
  | succ d ih =>
    intro k acc n hd hk
    obtain ⟨k, rfl⟩ : ∃ m, k = m + 1 := ⟨k - 1, by omega⟩
    by_cases h : n < l.length
    · simp only [spec_EndOf.l0]
      rw [if_pos (by omega), spec_IsScore.ok l hm k (by omega)]
      simp only [Option.bind_some]
      by_cases hs : isScoreB l = true
      · rw [if_pos hs, if_pos (by omega), rdT37 l n h, spec_Max.ok, w1 h hm]
        simp only [Option.bind_some]
        rw [ih k _ (n + 1) (by omega) (by omega), if_pos hs, if_pos hs, List.drop_eq_getElem_cons h, List.foldl_cons]
        rfl
      · rw [if_neg hs, if_neg hs]
    · simp only [spec_EndOf.l0]
      rw [if_neg (by omega), List.drop_of_length_le (by omega)]
      simp
theorem spec_EndOf.ok (l : List Evt) (hm : l.length ≤ 9223372036854775807) (k : Nat) (hk : l.length + l.length < k) : spec_EndOf.f k l = some (endOf l) := by
  unfold spec_EndOf.f endOf
  exact spec_EndOf.loop l hm l.length k 0 0 (by omega) hk
theorem impl_EndOf.loop (l : List Evt) (hm : l.length ≤ 9223372036854775807) : ∀ (d k : Nat) (acc : Int) (n : Nat), l.length - n ≤ d → d < k → impl_EndOf.l0 k acc l l.length (n : Int) = some ((l.drop n).foldl endStep acc) := by
  intro d
  induction d with
  | zero =>
    intro k acc n hd hk
    obtain ⟨k, rfl⟩ : ∃ m, k = m + 1 := ⟨k - 1, by omega⟩
    simp only [impl_EndOf.l0]
    rw [if_neg (by omega), List.drop_of_length_le (by omega)]
    simp
  | succ d ih =>
    intro k acc n hd hk
    obtain ⟨k, rfl⟩ : ∃ m, k = m + 1 := ⟨k - 1, by omega⟩
    by_cases h : n < l.length
    · simp only [impl_EndOf.l0]
      rw [if_pos (by omega), if_pos (by omega), if_pos (by omega), rdT37 l n h, w1 h hm, ih k _ (n + 1) (by omega) (by omega), List.drop_eq_getElem_cons h, List.foldl_cons]
      rfl
    · simp only [impl_EndOf.l0]
      rw [if_neg (by omega), List.drop_of_length_le (by omega)]
      simp
theorem impl_EndOf.ok (l : List Evt) (hm : l.length ≤ 9223372036854775807) (k : Nat) (hk : l.length + 4 < k) : impl_EndOf.f k l = some (endOf l) := by
  unfold impl_EndOf.f endOf
  rw [impl_IsScore.ok l hm k hk]
  simp only [Option.bind_some]
  split
  · exact impl_EndOf.loop l hm l.length k 0 0 (by omega) (by omega)
  · rfl
end Go.Proofs.Ytmacgllblbeegaa.F
