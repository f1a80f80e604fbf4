/- The rate at a tick. -/
import Derived.Test.YtinbdgngpkbgcaaTempo
import Derived.Test.YtinbdgngpkbgcaaF4
import Derived.Test.YtinbdgngpkbgcaaF9
namespace Go.Proofs.Ytinbdgngpkbgcaa.F
open Go.RowKit Go.Proofs.Ytinbdgngpkbgcaa.Opened Go.Proofs.YtinbdgngpkbgcaaW.PrintWords Go.Proofs.YtinbdgngpkbgcaaW.PrintLast Go.Proofs.YtinbdgngpkbgcaaW.PrintMore
set_option linter.unusedVariables false
set_option linter.unusedSimpArgs false
def rateStep (tick : Int) (r : Int) (t : Tmp) : Int := if t.f0 ≤ tick then t.f1 else r
def rateAt (l : List Tmp) (tick : Int) : Int := if isTempoB l = true then l.foldl (rateStep tick) 0 else 0
theorem spec_RateAt.loop (l : List Tmp) (tick : Int) (hm : l.length ≤ 9223372036854775807) : ∀ (d k : Nat) (acc : Int) (n : Nat), l.length - n ≤ d → 2 * d + l.length + 1 < k → spec_RateAt.l0 k l tick acc (n : Int) = some (if isTempoB l = true then (l.drop n).foldl (rateStep tick) acc else acc) := by
  intro d
  induction d with
  | zero =>
    intro k acc n hd hk
    obtain ⟨k, rfl⟩ : ∃ m, k = m + 2 := ⟨k - 2, by omega⟩
    simp only [spec_RateAt.l0, spec_RateAt.j1]
    rw [if_neg (by omega), List.drop_of_length_le (by omega)]
    simp
  | succ d ih =>
    intro k acc n hd hk
    obtain ⟨k, rfl⟩ : ∃ m, k = m + 2 := ⟨k - 2, by omega⟩
    by_cases h : n < l.length
    · simp only [spec_RateAt.l0]
      rw [if_pos (by omega), spec_IsTempo.ok l hm (k + 1) (by omega)]
      simp only [Option.bind_some, spec_RateAt.j1]
      by_cases hs : isTempoB l = true
      · rw [if_pos hs, if_pos (by omega), if_pos (by omega), rdT74 l n h, w1 h hm, if_pos hs, List.drop_eq_getElem_cons h, List.foldl_cons]
        have e : rateStep tick acc l[n] = if l[n].f0 ≤ tick then l[n].f1 else acc := rfl
        rw [e]
        by_cases c : l[n].f0 ≤ tick
        · rw [if_pos c, if_pos c, ih k _ (n + 1) (by omega) (by omega), if_pos hs]
        · rw [if_neg c, if_neg c, ih k _ (n + 1) (by omega) (by omega), if_pos hs]
      · rw [if_neg hs, if_neg hs]
    · simp only [spec_RateAt.l0, spec_RateAt.j1]
      rw [if_neg (by omega), List.drop_of_length_le (by omega)]
      simp
theorem spec_RateAt.ok (l : List Tmp) (tick : Int) (hm : l.length ≤ 1048576) (k : Nat) (hk : 3 * l.length + 10 < k) : spec_RateAt.f k l tick = some (rateAt l tick) := by
  unfold spec_RateAt.f rateAt
  exact spec_RateAt.loop l tick (by omega) l.length k 0 0 (by omega) (by omega)
theorem impl_RateAt.loop (l : List Tmp) (tick : Int) (hm : l.length ≤ 9223372036854775807) : ∀ (d k : Nat) (acc : Int) (n : Nat), l.length - n ≤ d → d < k → impl_RateAt.l0 k tick acc l l.length (n : Int) = some ((l.drop n).foldl (rateStep tick) acc) := by
  intro d
  induction d with
  | zero =>
    intro k acc n hd hk
    obtain ⟨k, rfl⟩ : ∃ m, k = m + 1 := ⟨k - 1, by omega⟩
    simp only [impl_RateAt.l0]
    rw [if_neg (by omega), List.drop_of_length_le (by omega)]
    simp
  | succ d ih =>
    intro k acc n hd hk
    obtain ⟨k, rfl⟩ : ∃ m, k = m + 1 := ⟨k - 1, by omega⟩
    by_cases h : n < l.length
    · simp only [impl_RateAt.l0]
      rw [if_pos (by omega), if_pos (by omega), if_pos (by omega), rdT74 l n h, w1 h hm, List.drop_eq_getElem_cons h, List.foldl_cons]
      have e : rateStep tick acc l[n] = if l[n].f0 ≤ tick then l[n].f1 else acc := rfl
      rw [e]
      by_cases c : l[n].f0 ≤ tick
      · rw [if_pos c, if_pos c, ih k _ (n + 1) (by omega) (by omega)]
      · rw [if_neg c, if_neg c, ih k _ (n + 1) (by omega) (by omega)]
    · simp only [impl_RateAt.l0]
      rw [if_neg (by omega), List.drop_of_length_le (by omega)]
      simp
theorem impl_RateAt.ok (l : List Tmp) (tick : Int) (hm : l.length ≤ 1048576) (k : Nat) (hk : 3 * l.length + 10 < k) : impl_RateAt.f k l tick = some (rateAt l tick) := by
  unfold impl_RateAt.f rateAt
  rw [impl_IsTempo.ok l (by omega) k (by omega)]
  simp only [Option.bind_some]
  split
  · exact impl_RateAt.loop l tick (by omega) l.length k 0 0 (by omega) (by omega)
  · rfl
end Go.Proofs.Ytinbdgngpkbgcaa.F
