/- Tempo maps, scaled. -/
import Derived.Test.YtinbdgngpkbgcaaTempo
import Derived.Test.YtinbdgngpkbgcaaF14
import Derived.Test.YtinbdgngpkbgcaaF13
import Derived.Test.YtinbdgngpkbgcaaF15
namespace Go.Proofs.Ytinbdgngpkbgcaa.F
open Go.RowKit Go.Proofs.Ytinbdgngpkbgcaa.Opened Go.Proofs.YtinbdgngpkbgcaaW.PrintWords Go.Proofs.YtinbdgngpkbgcaaW.PrintLast Go.Proofs.YtinbdgngpkbgcaaW.PrintMore
set_option linter.unusedVariables false
set_option linter.unusedSimpArgs false
def scT (p : Int) (e : Tmp) : Tmp := ⟨e.f0, wrap64 (Int.tdiv (wrap64 (e.f1 * p)) 100)⟩
def scaleT (l : List Tmp) (p : Int) : List Tmp × Bool := if isTempoB l = true ∧ ((1 : Int) ≤ p ∧ p ≤ 1000) then (if isTempoB (l.map (scT p)) = true then (l.map (scT p), true) else (l, false)) else (l, false)
theorem scaleT_length (l : List Tmp) (p : Int) : (scaleT l p).1.length = l.length := by
  unfold scaleT
  repeat' split
  all_goals simp
theorem impl_Tempo.ok (l : List Tmp) (hm : l.length ≤ 1048576) : impl_Tempo.f l = some l := by
  unfold impl_Tempo.f
  simp only [Option.bind_some, List.length_nil, List.nil_append]
  rw [if_pos (by omega)]
theorem scStep (p : Int) (acc : List Tmp) (n : Nat) (hn : n < acc.length) : (acc.set n (scT p acc[n])).take (n + 1) ++ ((acc.set n (scT p acc[n])).drop (n + 1)).map (scT p) = acc.take n ++ (acc.drop n).map (scT p) := by
  rw [set_take _ _ _ hn, List.drop_set_of_lt (by omega), List.drop_eq_getElem_cons hn]
  simp only [List.map_cons, List.append_assoc, List.singleton_append]
theorem impl_ScaleTempo.loop (l : List Tmp) (p : Int) (hm : l.length ≤ 1048576) : ∀ (d k : Nat) (acc : List Tmp) (n : Nat), acc.length ≤ 1048576 → acc.length - n ≤ d → d + acc.length + 5 < k → impl_ScaleTempo.l0 k l p acc acc.length (n : Int) = some (if isTempoB (acc.take n ++ (acc.drop n).map (scT p)) = true then (acc.take n ++ (acc.drop n).map (scT p), true) else (l, false)) := by
  intro d
  induction d with
  | zero =>
    intro k acc n ha hd hk
    obtain ⟨k, rfl⟩ : ∃ m, k = m + 1 := ⟨k - 1, by omega⟩
    simp only [impl_ScaleTempo.l0]
    rw [if_neg (by omega), List.drop_of_length_le (by omega), List.take_of_length_le (by omega), impl_IsTempo.ok acc (by omega) k (by omega), impl_Tempo.ok l hm]
    simp only [Option.bind_some, List.map_nil, List.append_nil]
    split <;> rfl
  | succ d ih =>
    intro k acc n ha hd hk
    obtain ⟨k, rfl⟩ : ∃ m, k = m + 1 := ⟨k - 1, by omega⟩
    by_cases hn : n < acc.length
    · simp only [impl_ScaleTempo.l0]
      rw [if_pos (by omega), if_pos (by omega), if_pos (by omega), rdT74 acc n hn, w1 hn (by omega), Int.toNat_natCast]
      have e : (⟨acc[n].f0, wrap64 (Int.tdiv (wrap64 (acc[n].f1 * p)) 100)⟩ : Tmp) = scT p acc[n] := rfl
      rw [e]
      have hl : (acc.set n (scT p acc[n])).length = acc.length := by simp
      have := ih k (acc.set n (scT p acc[n])) (n + 1) (by omega) (by omega) (by omega)
      rw [hl, scStep p acc n hn] at this
      exact this
    · simp only [impl_ScaleTempo.l0]
      rw [if_neg (by omega), List.drop_of_length_le (by omega), List.take_of_length_le (by omega), impl_IsTempo.ok acc (by omega) k (by omega), impl_Tempo.ok l hm]
      simp only [Option.bind_some, List.map_nil, List.append_nil]
      split <;> rfl
theorem impl_ScaleTempo.ok (l : List Tmp) (p : Int) (hm : l.length ≤ 1048576) (k : Nat) (hk : 2 * l.length + 20 < k) : impl_ScaleTempo.f k l p = some (scaleT l p) := by
  obtain ⟨k, rfl⟩ : ∃ m, k = m + 1 := ⟨k - 1, by omega⟩
  unfold impl_ScaleTempo.f scaleT
  rw [impl_Tempo.ok l hm]
  simp only [Option.bind_some]
  rw [impl_IsTempo.ok l (by omega) _ (by omega), impl_InRange.ok]
  simp only [Option.bind_some, impl_ScaleTempo.j0]
  have hl := impl_ScaleTempo.loop l p hm l.length k l 0 hm (by omega) (by omega)
  simp only [List.take_zero, List.drop_zero, List.nil_append] at hl
  by_cases hs : isTempoB l = true
  · by_cases hr : (1 : Int) ≤ p ∧ p ≤ 1000
    · simp only [hs, hr, and_self, decide_true, Bool.not_true, Bool.false_eq_true, if_true, if_false]
      exact hl
    · simp [hs, hr]
  · simp [hs]
theorem spec_ScaleTempo.loop (l : List Tmp) (p : Int) (hm : l.length ≤ 1048576) : ∀ (d k : Nat) (acc : List Tmp) (n : Nat), acc.length ≤ 1048576 → acc.length - n ≤ d → d + acc.length + 5 < k → spec_ScaleTempo.l0 k l p acc (n : Int) = some (if isTempoB (acc.take n ++ (acc.drop n).map (scT p)) = true then (acc.take n ++ (acc.drop n).map (scT p), true) else (l, false)) := by
  intro d
  induction d with
  | zero =>
    intro k acc n ha hd hk
    obtain ⟨k, rfl⟩ : ∃ m, k = m + 1 := ⟨k - 1, by omega⟩
    simp only [spec_ScaleTempo.l0]
    rw [if_neg (by omega), List.drop_of_length_le (by omega), List.take_of_length_le (by omega), spec_IsTempo.ok acc (by omega) k (by omega)]
    simp only [Option.bind_some, List.map_nil, List.append_nil, List.length_nil, List.nil_append]
    rw [if_pos (show 0 + l.length < 8796093022208 by omega)]
    split <;> rfl
  | succ d ih =>
    intro k acc n ha hd hk
    obtain ⟨k, rfl⟩ : ∃ m, k = m + 1 := ⟨k - 1, by omega⟩
    by_cases hn : n < acc.length
    · simp only [spec_ScaleTempo.l0]
      rw [if_pos (by omega), if_pos (by omega), rdT74 acc n hn, w1 hn (by omega), Int.toNat_natCast]
      have e : (⟨acc[n].f0, wrap64 (Int.tdiv (wrap64 (acc[n].f1 * p)) 100)⟩ : Tmp) = scT p acc[n] := rfl
      rw [e]
      have hl : (acc.set n (scT p acc[n])).length = acc.length := by simp
      have := ih k (acc.set n (scT p acc[n])) (n + 1) (by omega) (by omega) (by omega)
      rw [scStep p acc n hn] at this
      exact this
    · simp only [spec_ScaleTempo.l0]
      rw [if_neg (by omega), List.drop_of_length_le (by omega), List.take_of_length_le (by omega), spec_IsTempo.ok acc (by omega) k (by omega)]
      simp only [Option.bind_some, List.map_nil, List.append_nil, List.length_nil, List.nil_append]
      rw [if_pos (show 0 + l.length < 8796093022208 by omega)]
      split <;> rfl
theorem spec_ScaleTempo.ok (l : List Tmp) (p : Int) (hm : l.length ≤ 1048576) (k : Nat) (hk : 2 * l.length + 20 < k) : spec_ScaleTempo.f k l p = some (scaleT l p) := by
  obtain ⟨k, rfl⟩ : ∃ m, k = m + 1 := ⟨k - 1, by omega⟩
  unfold spec_ScaleTempo.f scaleT
  simp only [Option.bind_some, List.length_nil, List.nil_append]
  rw [if_pos (show 0 + l.length < 8796093022208 by omega), spec_IsTempo.ok l (by omega) _ (by omega), spec_l1In.ok]
  simp only [Option.bind_some, spec_ScaleTempo.j0]
  have hl := spec_ScaleTempo.loop l p hm l.length k l 0 hm (by omega) (by omega)
  simp only [List.take_zero, List.drop_zero, List.nil_append] at hl
  by_cases hs : isTempoB l = true
  · by_cases hr : (1 : Int) ≤ p ∧ p ≤ 1000
    · simp only [hs, hr, and_self, decide_true, Bool.not_true, Bool.false_eq_true, if_true, if_false]
      exact hl
    · simp [hs, hr]
  · simp [hs]
end Go.Proofs.Ytinbdgngpkbgcaa.F
