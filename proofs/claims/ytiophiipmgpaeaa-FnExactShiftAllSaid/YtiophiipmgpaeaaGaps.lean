/- Performances: gaps, pitches, shifts. -/
import Derived.Test.YtiophiipmgpaeaaPerf
import Derived.Test.YtiophiipmgpaeaaF33
import Derived.Test.YtiophiipmgpaeaaF18
import Derived.Test.YtiophiipmgpaeaaF22
import Derived.Test.YtiophiipmgpaeaaF29
import Derived.Test.YtiophiipmgpaeaaF30
import Derived.Test.YtiophiipmgpaeaaF32
import Derived.Test.YtiophiipmgpaeaaF34
namespace Go.Proofs.Ytiophiipmgpaeaa.F
open Go.RowKit Go.Proofs.Ytiophiipmgpaeaa.Opened Go.Proofs.YtiophiipmgpaeaaW.PrintWords Go.Proofs.YtiophiipmgpaeaaW.PrintLast Go.Proofs.YtiophiipmgpaeaaW.PrintMore
set_option linter.unusedVariables false
set_option linter.unusedSimpArgs false

def pitchesP (l : List Pld) : List Int := l.map (fun e => e.f1)
theorem pitchesP_length (l : List Pld) : (pitchesP l).length = l.length := by unfold pitchesP; simp
theorem spec_PitchesOf.loop (l : List Pld) (hm : l.length ≤ 1048576) : ∀ (d k : Nat) (acc : List Int) (n : Nat), acc.length + l.length ≤ 2097152 + n → l.length - n ≤ d → d < k → n ≤ l.length → spec_PitchesOf.l0 k l acc (n : Int) = some (acc ++ pitchesP (l.drop n)) := by
  intro d
  induction d with
  | zero =>
    intro k acc n ha hd hk hn
    obtain ⟨k, rfl⟩ : ∃ m, k = m + 1 := ⟨k - 1, by omega⟩
    simp only [spec_PitchesOf.l0]
    rw [if_neg (by omega), List.drop_of_length_le (by omega)]
    simp [pitchesP]
  | succ d ih =>
    intro k acc n ha hd hk hn
    obtain ⟨k, rfl⟩ : ∃ m, k = m + 1 := ⟨k - 1, by omega⟩
    by_cases h : n < l.length
    · simp only [spec_PitchesOf.l0]
      rw [if_pos (by omega), if_pos (by omega), if_pos (by omega), rdT109 l n h, w1 h (by omega), List.drop_eq_getElem_cons h, ih k _ (n + 1) (by simp; omega) (by omega) (by omega) (by omega)]
      simp only [pitchesP, List.map_cons, List.append_assoc, List.singleton_append]
    · simp only [spec_PitchesOf.l0]
      rw [if_neg (by omega), List.drop_of_length_le (by omega)]
      simp [pitchesP]
theorem spec_PitchesOf.ok (l : List Pld) (hm : l.length ≤ 1048576) (k : Nat) (hk : l.length < k) : spec_PitchesOf.f k l = some (pitchesP l) := by
  unfold spec_PitchesOf.f
  have := spec_PitchesOf.loop l hm l.length k [] 0 (by simp; omega) (by omega) hk (by omega)
  simpa using this
theorem impl_PitchesOf.loop (l : List Pld) (hm : l.length ≤ 1048576) : ∀ (d k : Nat) (acc : List Int) (n : Nat), acc.length + l.length ≤ 2097152 + n → l.length - n ≤ d → d < k → n ≤ l.length → impl_PitchesOf.l0 k acc l l.length (n : Int) = some (acc ++ pitchesP (l.drop n)) := by
  intro d
  induction d with
  | zero =>
    intro k acc n ha hd hk hn
    obtain ⟨k, rfl⟩ : ∃ m, k = m + 1 := ⟨k - 1, by omega⟩
    simp only [impl_PitchesOf.l0]
    rw [if_neg (by omega), List.drop_of_length_le (by omega)]
    simp [pitchesP]
  | succ d ih =>
    intro k acc n ha hd hk hn
    obtain ⟨k, rfl⟩ : ∃ m, k = m + 1 := ⟨k - 1, by omega⟩
    by_cases h : n < l.length
    · simp only [impl_PitchesOf.l0]
      rw [if_pos (by omega), if_pos (by omega), if_pos (by omega), if_pos (by omega), rdT109 l n h, w1 h (by omega), List.drop_eq_getElem_cons h, ih k _ (n + 1) (by simp; omega) (by omega) (by omega) (by omega)]
      simp only [pitchesP, List.map_cons, List.append_assoc, List.singleton_append]
    · simp only [impl_PitchesOf.l0]
      rw [if_neg (by omega), List.drop_of_length_le (by omega)]
      simp [pitchesP]
theorem impl_PitchesOf.ok (l : List Pld) (hm : l.length ≤ 1048576) (k : Nat) (hk : l.length < k) : impl_PitchesOf.f k l = some (pitchesP l) := by
  unfold impl_PitchesOf.f
  have := impl_PitchesOf.loop l hm l.length k [] 0 (by simp; omega) (by omega) hk (by omega)
  simpa using this

def gapAt (l : List Pld) (i : Nat) : Int := wrap64 ((rd_T109 l i).f0 - (rd_T109 l ((i - 1 : Nat) : Int)).f0)
def gapsL (l : List Pld) : List Int := (List.range' 1 (l.length - 1)).map (gapAt l)
def gapsP (l : List Pld) : List Int := if isPerfB l = true then gapsL l else []
theorem gapsP_length (l : List Pld) : (gapsP l).length ≤ l.length := by
  unfold gapsP gapsL
  split <;> simp
theorem spec_GapsOf.loop (l : List Pld) (hm : l.length ≤ 1048576) (hp : isPerfB l = true) : ∀ (d k : Nat) (acc : List Int) (n : Nat), acc.length ≤ n → 1 ≤ n → l.length - n = d → d + l.length + 2 < k → spec_GapsOf.l0 k l acc (n : Int) = some (acc ++ (List.range' n d).map (gapAt l)) := by
  intro d
  induction d with
  | zero =>
    intro k acc n ha hn hd hk
    obtain ⟨k, rfl⟩ : ∃ m, k = m + 1 := ⟨k - 1, by omega⟩
    simp only [spec_GapsOf.l0]
    rw [if_neg (by omega)]
    simp
  | succ d ih =>
    intro k acc n ha hn hd hk
    obtain ⟨k, rfl⟩ : ∃ m, k = m + 1 := ⟨k - 1, by omega⟩
    have h : n < l.length := by omega
    have e : wrap64 ((n : Int) - 1) = ((n - 1 : Nat) : Int) := by unfold wrap64; omega
    simp only [spec_GapsOf.l0]
    rw [if_pos (by omega), spec_IsPerformance.ok l (by omega) _ (by omega), hp]
    simp only [Option.bind_some, if_true]
    rw [if_pos (by omega), e, if_pos (by omega), if_pos (by omega), if_pos (by omega), w1 h (by omega), ih k _ (n + 1) (by simp; omega) (by omega) (by omega) (by omega)]
    simp [List.range'_succ, gapAt]
theorem spec_GapsOf.ok (l : List Pld) (hm : l.length ≤ 1048576) (k : Nat) (hk : 2 * l.length + 5 < k) : spec_GapsOf.f k l = some (gapsP l) := by
  unfold spec_GapsOf.f gapsP
  by_cases hp : isPerfB l = true
  · rw [if_pos hp]
    exact spec_GapsOf.loop l hm hp (l.length - 1) k [] 1 (by simp) (by omega) rfl (by omega)
  · rw [if_neg hp]
    obtain ⟨k, rfl⟩ : ∃ m, k = m + 1 := ⟨k - 1, by omega⟩
    simp only [spec_GapsOf.l0]
    by_cases h : (1 : Int) < (l.length : Int)
    · rw [if_pos h, spec_IsPerformance.ok l (by omega) _ (by omega)]
      simp only [Option.bind_some]
      rw [if_neg hp]
    · rw [if_neg h]
theorem impl_GapsOf.loop (l : List Pld) (hm : l.length ≤ 1048576) : ∀ (d k : Nat) (acc : List Int) (n : Nat), acc.length ≤ n → 1 ≤ n → l.length - n = d → d < k → impl_GapsOf.l0 k l acc (n : Int) = some (acc ++ (List.range' n d).map (gapAt l)) := by
  intro d
  induction d with
  | zero =>
    intro k acc n ha hn hd hk
    obtain ⟨k, rfl⟩ : ∃ m, k = m + 1 := ⟨k - 1, by omega⟩
    simp only [impl_GapsOf.l0]
    rw [if_neg (by omega)]
    simp
  | succ d ih =>
    intro k acc n ha hn hd hk
    obtain ⟨k, rfl⟩ : ∃ m, k = m + 1 := ⟨k - 1, by omega⟩
    have h : n < l.length := by omega
    have e : wrap64 ((n : Int) - 1) = ((n - 1 : Nat) : Int) := by unfold wrap64; omega
    simp only [impl_GapsOf.l0]
    rw [if_pos (by omega), if_pos (by omega), e, if_pos (by omega), if_pos (by omega), if_pos (by omega), w1 h (by omega), ih k _ (n + 1) (by simp; omega) (by omega) (by omega) (by omega)]
    simp [List.range'_succ, gapAt]
theorem impl_GapsOf.ok (l : List Pld) (hm : l.length ≤ 1048576) (k : Nat) (hk : 2 * l.length + 5 < k) : impl_GapsOf.f k l = some (gapsP l) := by
  unfold impl_GapsOf.f gapsP
  simp only [Option.bind_some]
  rw [impl_IsPerformance.ok l (by omega) _ (by omega)]
  simp only [Option.bind_some]
  by_cases hp : isPerfB l = true
  · rw [if_pos hp, if_pos hp]
    exact impl_GapsOf.loop l hm (l.length - 1) k [] 1 (by simp) (by omega) rfl (by omega)
  · rw [if_neg hp, if_neg hp]

def shP (p : Int) (e : Pld) : Pld := ⟨wrap64 (e.f0 + p), e.f1⟩
def shiftP (l : List Pld) (p : Int) : List Pld × Bool := if isPerfB l = true ∧ ((-10000000 : Int) ≤ p ∧ p ≤ 10000000) then (if isPerfB (l.map (shP p)) = true then (l.map (shP p), true) else (l, false)) else (l, false)
theorem shiftP_length (l : List Pld) (p : Int) : (shiftP l p).1.length = l.length := by
  unfold shiftP
  repeat' split
  all_goals simp
theorem impl_Played_88.ok (l : List Pld) (hm : l.length ≤ 1048576) : impl_Played_88.f l = some l := by
  unfold impl_Played_88.f
  simp only [Option.bind_some, List.length_nil, List.nil_append]
  rw [if_pos (by omega)]
theorem shStep (p : Int) (acc : List Pld) (n : Nat) (hn : n < acc.length) : (acc.set n (shP p acc[n])).take (n + 1) ++ ((acc.set n (shP p acc[n])).drop (n + 1)).map (shP p) = acc.take n ++ (acc.drop n).map (shP p) := by
  rw [set_take _ _ _ hn, List.drop_set_of_lt (by omega), List.drop_eq_getElem_cons hn]
  simp only [List.map_cons, List.append_assoc, List.singleton_append]
theorem impl_ShiftAll.loop (l : List Pld) (p : Int) (hm : l.length ≤ 1048576) : ∀ (d k : Nat) (acc : List Pld) (n : Nat), acc.length ≤ 1048576 → acc.length - n ≤ d → d + acc.length + 5 < k → impl_ShiftAll.l0 k l p acc acc.length (n : Int) = some (if isPerfB (acc.take n ++ (acc.drop n).map (shP p)) = true then (acc.take n ++ (acc.drop n).map (shP p), true) else (l, false)) := by
  intro d
  induction d with
  | zero =>
    intro k acc n ha hd hk
    obtain ⟨k, rfl⟩ : ∃ m, k = m + 1 := ⟨k - 1, by omega⟩
    simp only [impl_ShiftAll.l0]
    rw [if_neg (by omega), List.drop_of_length_le (by omega), List.take_of_length_le (by omega), impl_IsPerformance.ok acc (by omega) k (by omega), impl_Played_88.ok l hm]
    simp only [Option.bind_some, List.map_nil, List.append_nil]
    split <;> rfl
  | succ d ih =>
    intro k acc n ha hd hk
    obtain ⟨k, rfl⟩ : ∃ m, k = m + 1 := ⟨k - 1, by omega⟩
    by_cases hn : n < acc.length
    · simp only [impl_ShiftAll.l0]
      rw [if_pos (by omega), if_pos (by omega), if_pos (by omega), rdT109 acc n hn, w1 hn (by omega), Int.toNat_natCast]
      have e : (⟨wrap64 (acc[n].f0 + p), acc[n].f1⟩ : Pld) = shP p acc[n] := rfl
      rw [e]
      have hl : (acc.set n (shP p acc[n])).length = acc.length := by simp
      have := ih k (acc.set n (shP p acc[n])) (n + 1) (by omega) (by omega) (by omega)
      rw [hl, shStep p acc n hn] at this
      exact this
    · simp only [impl_ShiftAll.l0]
      rw [if_neg (by omega), List.drop_of_length_le (by omega), List.take_of_length_le (by omega), impl_IsPerformance.ok acc (by omega) k (by omega), impl_Played_88.ok l hm]
      simp only [Option.bind_some, List.map_nil, List.append_nil]
      split <;> rfl
theorem impl_ShiftAll.ok (l : List Pld) (p : Int) (hm : l.length ≤ 1048576) (k : Nat) (hk : 2 * l.length + 20 < k) : impl_ShiftAll.f k l p = some (shiftP l p) := by
  obtain ⟨k, rfl⟩ : ∃ m, k = m + 1 := ⟨k - 1, by omega⟩
  unfold impl_ShiftAll.f shiftP
  rw [impl_Played_88.ok l hm]
  simp only [Option.bind_some]
  rw [impl_IsPerformance.ok l (by omega) _ (by omega), impl_InRange.ok]
  simp only [Option.bind_some, impl_ShiftAll.j0]
  have hl := impl_ShiftAll.loop l p hm l.length k l 0 hm (by omega) (by omega)
  simp only [List.take_zero, List.drop_zero, List.nil_append] at hl
  by_cases hs : isPerfB l = true
  · by_cases hr : (-10000000 : Int) ≤ p ∧ p ≤ 10000000
    · simp only [hs, hr, and_self, decide_true, Bool.not_true, Bool.false_eq_true, if_true, if_false]
      exact hl
    · simp [hs, hr]
  · simp [hs]
theorem spec_ShiftAll.loop (l : List Pld) (p : Int) (hm : l.length ≤ 1048576) : ∀ (d k : Nat) (acc : List Pld) (n : Nat), acc.length ≤ 1048576 → acc.length - n ≤ d → d + acc.length + 5 < k → spec_ShiftAll.l0 k l p acc (n : Int) = some (if isPerfB (acc.take n ++ (acc.drop n).map (shP p)) = true then (acc.take n ++ (acc.drop n).map (shP p), true) else (l, false)) := by
  intro d
  induction d with
  | zero =>
    intro k acc n ha hd hk
    obtain ⟨k, rfl⟩ : ∃ m, k = m + 1 := ⟨k - 1, by omega⟩
    simp only [spec_ShiftAll.l0]
    rw [if_neg (by omega), List.drop_of_length_le (by omega), List.take_of_length_le (by omega), spec_IsPerformance.ok acc (by omega) k (by omega)]
    simp only [Option.bind_some, List.map_nil, List.append_nil, List.length_nil, List.nil_append]
    rw [if_pos (show 0 + l.length < 8796093022208 by omega)]
    split <;> rfl
  | succ d ih =>
    intro k acc n ha hd hk
    obtain ⟨k, rfl⟩ : ∃ m, k = m + 1 := ⟨k - 1, by omega⟩
    by_cases hn : n < acc.length
    · simp only [spec_ShiftAll.l0]
      rw [if_pos (by omega), if_pos (by omega), rdT109 acc n hn, w1 hn (by omega), Int.toNat_natCast]
      have e : (⟨wrap64 (acc[n].f0 + p), acc[n].f1⟩ : Pld) = shP p acc[n] := rfl
      rw [e]
      have hl : (acc.set n (shP p acc[n])).length = acc.length := by simp
      have := ih k (acc.set n (shP p acc[n])) (n + 1) (by omega) (by omega) (by omega)
      rw [shStep p acc n hn] at this
      exact this
    · simp only [spec_ShiftAll.l0]
      rw [if_neg (by omega), List.drop_of_length_le (by omega), List.take_of_length_le (by omega), spec_IsPerformance.ok acc (by omega) k (by omega)]
      simp only [Option.bind_some, List.map_nil, List.append_nil, List.length_nil, List.nil_append]
      rw [if_pos (show 0 + l.length < 8796093022208 by omega)]
      split <;> rfl
theorem spec_ShiftAll.ok (l : List Pld) (p : Int) (hm : l.length ≤ 1048576) (k : Nat) (hk : 2 * l.length + 20 < k) : spec_ShiftAll.f k l p = some (shiftP l p) := by
  obtain ⟨k, rfl⟩ : ∃ m, k = m + 1 := ⟨k - 1, by omega⟩
  unfold spec_ShiftAll.f shiftP
  simp only [Option.bind_some, List.length_nil, List.nil_append]
  rw [if_pos (show 0 + l.length < 8796093022208 by omega), spec_IsPerformance.ok l (by omega) _ (by omega), spec_l1In.ok]
  simp only [Option.bind_some, spec_ShiftAll.j0]
  have hl := spec_ShiftAll.loop l p hm l.length k l 0 hm (by omega) (by omega)
  simp only [List.take_zero, List.drop_zero, List.nil_append] at hl
  by_cases hs : isPerfB l = true
  · by_cases hr : (-10000000 : Int) ≤ p ∧ p ≤ 10000000
    · simp only [hs, hr, and_self, decide_true, Bool.not_true, Bool.false_eq_true, if_true, if_false]
      exact hl
    · simp [hs, hr]
  · simp [hs]
end Go.Proofs.Ytiophiipmgpaeaa.F
