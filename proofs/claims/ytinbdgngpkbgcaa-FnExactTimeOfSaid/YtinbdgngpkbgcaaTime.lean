/- The time of a tick. -/
import Derived.Test.YtinbdgngpkbgcaaTempo
import Derived.Test.YtinbdgngpkbgcaaRatio
import Derived.Test.YtinbdgngpkbgcaaF25
import Derived.Test.YtinbdgngpkbgcaaF31
import Derived.Test.YtinbdgngpkbgcaaF19
namespace Go.Proofs.Ytinbdgngpkbgcaa.F
open Go.RowKit Go.Proofs.Ytinbdgngpkbgcaa.Opened Go.Proofs.YtinbdgngpkbgcaaW.PrintWords Go.Proofs.YtinbdgngpkbgcaaW.PrintLast Go.Proofs.YtinbdgngpkbgcaaW.PrintMore
set_option linter.unusedVariables false
set_option linter.unusedSimpArgs false

def endT (t : Int) : List Tmp → Int
  | [] => t
  | f :: _ => mn t f.f0
def partT (t : Int) (e : Tmp) (l : List Tmp) : Int × Int × Bool := makeR (wrap64 (wrap64 (endT t l - e.f0) * 5000)) e.f1
def timeL (t : Int) : Int → Int → List Tmp → Int × Int × Bool
  | n, d, [] => (n, d, true)
  | n, d, e :: l => if e.f0 < t then (if (addR n d (partT t e l).1 (partT t e l).2.1).2.2 = true then timeL t (addR n d (partT t e l).1 (partT t e l).2.1).1 (addR n d (partT t e l).1 (partT t e l).2.1).2.1 l else noR) else (n, d, true)
def timeOf (l : List Tmp) (t : Int) : Int × Int × Bool := if isTempoB l = true ∧ (0 ≤ t ∧ t ≤ 2000) then timeL t 0 1 l else noR
theorem tpB_lt : ∀ (l : List Tmp) (p : Option Tmp), tpB p l = true → ∀ i (h : i + 1 < l.length), (l[i]'(by omega)).f0 < l[i + 1].f0 := by
  intro l
  induction l with
  | nil => intro p hp i h; simp at h
  | cons e l ih =>
    intro p hp i h
    simp only [tpB, Bool.and_eq_true, decide_eq_true_eq] at hp
    cases i with
    | zero =>
      cases l with
      | nil => simp at h
      | cons f l =>
        have h2 := hp.2
        simp only [tpB, Bool.and_eq_true] at h2
        have h3 : (20 ≤ f.f1 ∧ f.f1 ≤ 300) ∧ (0 ≤ f.f0 ∧ f.f0 ≤ 2000) ∧ e.f0 < f.f0 := of_decide_eq_true h2.1
        simpa using h3.2.2
    | succ i => exact ih _ hp.2 i (by simpa using h)
theorem isTempoB_lt {l : List Tmp} (hs : isTempoB l = true) (i : Nat) (h : i + 1 < l.length) : (l[i]'(by omega)).f0 < l[i + 1].f0 := by
  unfold isTempoB at hs
  simp only [Bool.and_eq_true] at hs
  exact tpB_lt l none hs.1 i h
theorem endT_drop (t : Int) (l : List Tmp) (n : Nat) : endT t (l.drop n) = if h : n < l.length then mn t l[n].f0 else t := by
  by_cases h : n < l.length
  · rw [dif_pos h, List.drop_eq_getElem_cons h]
    rfl
  · rw [dif_neg h, List.drop_of_length_le (by omega)]
    rfl
theorem spec_Min.ok' (a b : Int) : spec_Min.f a b = some (mn a b) := by
  unfold spec_Min.f mn
  by_cases h : b < a <;> simp [h]
theorem spec_TimeOf.loop (l : List Tmp) (t : Int) (hm : l.length ≤ 1048576) : ∀ (d k n : Nat) (a b : Int), l.length - n ≤ d → 3 * d + 1000000000000010 < k → spec_TimeOf.l0 k l t (n : Int) a b = some (timeL t a b (l.drop n)) := by
  intro d
  induction d with
  | zero =>
    intro k n a b hd hk
    obtain ⟨k, rfl⟩ : ∃ m, k = m + 2 := ⟨k - 2, by omega⟩
    simp only [spec_TimeOf.l0, spec_TimeOf.j2]
    rw [if_neg (by omega), List.drop_of_length_le (by omega)]
    simp [timeL]
  | succ d ih =>
    intro k n a b hd hk
    obtain ⟨k, rfl⟩ : ∃ m, k = m + 3 := ⟨k - 3, by omega⟩
    by_cases h : n < l.length
    · simp only [spec_TimeOf.l0]
      rw [if_pos (by omega), if_pos (by omega), rdT74 l n h, List.drop_eq_getElem_cons h]
      simp only [spec_TimeOf.j2, timeL]
      by_cases c : l[n].f0 < t
      · have e : (if wrap64 ((n : Int) + 1) < (l.length : Int) then (if 0 ≤ wrap64 ((n : Int) + 1) then (spec_Min.f t (rd_T74 l (wrap64 ((n : Int) + 1))).f0).bind fun x => spec_TimeOf.j3 (k + 1) l t n x a b else none) else spec_TimeOf.j3 (k + 1) l t n t a b) = spec_TimeOf.j3 (k + 1) l t n (endT t (l.drop (n + 1))) a b := by
          rw [w1 h (by omega), endT_drop]
          by_cases h' : n + 1 < l.length
          · rw [if_pos (by omega), if_pos (by omega), rdT74 l (n + 1) h', spec_Min.ok', dif_pos h']
            rfl
          · rw [if_neg (by omega), dif_neg h']
        rw [if_pos (by simpa using c), e, if_pos c]
        simp only [spec_TimeOf.j3]
        rw [if_pos (by omega), if_pos (by omega), rdT74 l n h, spec_MakeRatio.ok _ _ k (by omega)]
        have e2 : makeR (wrap64 (wrap64 (endT t (l.drop (n + 1)) - l[n].f0) * 5000)) l[n].f1 = partT t l[n] (l.drop (n + 1)) := rfl
        rw [e2]
        simp only [Option.bind_some]
        rw [spec_AddRatio.ok _ _ _ _ k (by omega)]
        simp only [Option.bind_some]
        rw [w1 h (by omega), ih k (n + 1) _ _ (by omega) (by omega)]
        unfold noR
        split <;> rfl
      · rw [if_neg (by simpa using c), if_neg c]
    · simp only [spec_TimeOf.l0, spec_TimeOf.j2]
      rw [if_neg (by omega), List.drop_of_length_le (by omega)]
      simp [timeL]
theorem spec_TimeOf.ok (l : List Tmp) (t : Int) (hm : l.length ≤ 1048576) (k : Nat) (hk : 3 * l.length + 1000000000000020 < k) : spec_TimeOf.f k l t = some (timeOf l t) := by
  obtain ⟨k, rfl⟩ : ∃ m, k = m + 1 := ⟨k - 1, by omega⟩
  unfold spec_TimeOf.f timeOf
  rw [spec_IsTempo.ok l (by omega) _ (by omega), spec_l1In.ok]
  simp only [Option.bind_some, spec_TimeOf.j0]
  have hl := spec_TimeOf.loop l t hm l.length k 0 0 1 (by omega) (by omega)
  simp only [List.drop_zero] at hl
  by_cases hs : isTempoB l = true
  · by_cases hr : (0 : Int) ≤ t ∧ t ≤ 2000
    · simp only [hs, hr, and_self, decide_true, Bool.not_true, Bool.false_eq_true, if_true, if_false]
      exact hl
    · simp [hs, hr, noR]
  · simp [hs, noR]
theorem impl_TimeOf.loop (l : List Tmp) (t : Int) (hm : l.length ≤ 1048576) (hs : isTempoB l = true) : ∀ (d k n : Nat) (a b : Int), l.length - n ≤ d → 3 * d + 1000000000000010 < k → impl_TimeOf.l0 k l t l l.length (n : Int) a b = some (timeL t a b (l.drop n)) := by
  intro d
  induction d with
  | zero =>
    intro k n a b hd hk
    obtain ⟨k, rfl⟩ : ∃ m, k = m + 2 := ⟨k - 2, by omega⟩
    simp only [impl_TimeOf.l0]
    rw [if_neg (by omega), List.drop_of_length_le (by omega)]
    simp [timeL]
  | succ d ih =>
    intro k n a b hd hk
    obtain ⟨k, rfl⟩ : ∃ m, k = m + 2 := ⟨k - 2, by omega⟩
    by_cases h : n < l.length
    · simp only [impl_TimeOf.l0]
      rw [if_pos (by omega), if_pos (by omega), if_pos (by omega), rdT74 l n h, List.drop_eq_getElem_cons h]
      have e : (if wrap64 ((n : Int) + 1) < (l.length : Int) then (if 0 ≤ wrap64 ((n : Int) + 1) then impl_TimeOf.j2 (k + 1) l t (mn t (rd_T74 l (wrap64 ((n : Int) + 1))).f0) l l.length n a b l[n].f0 l[n].f1 else none) else impl_TimeOf.j2 (k + 1) l t t l l.length n a b l[n].f0 l[n].f1) = impl_TimeOf.j2 (k + 1) l t (endT t (l.drop (n + 1))) l l.length n a b l[n].f0 l[n].f1 := by
        rw [w1 h (by omega), endT_drop]
        by_cases h' : n + 1 < l.length
        · rw [if_pos (by omega), if_pos (by omega), rdT74 l (n + 1) h', dif_pos h']
        · rw [if_neg (by omega), dif_neg h']
      rw [e]
      simp only [impl_TimeOf.j2, timeL]
      have hc : endT t (l.drop (n + 1)) ≤ l[n].f0 ↔ ¬ l[n].f0 < t := by
        rw [endT_drop]
        by_cases h' : n + 1 < l.length
        · rw [dif_pos h']
          have := isTempoB_lt hs n h'
          unfold mn
          split <;> omega
        · rw [dif_neg h']
          omega
      by_cases c : l[n].f0 < t
      · rw [if_neg (fun h => hc.mp h c), if_pos c, impl_MakeRatio.ok _ _ k (by omega)]
        have e2 : makeR (wrap64 (wrap64 (endT t (l.drop (n + 1)) - l[n].f0) * 5000)) l[n].f1 = partT t l[n] (l.drop (n + 1)) := rfl
        rw [e2]
        simp only [Option.bind_some]
        rw [impl_AddRatio.ok _ _ _ _ k (by omega)]
        simp only [Option.bind_some]
        rw [w1 h (by omega), ih k (n + 1) _ _ (by omega) (by omega)]
        by_cases c2 : (partT t l[n] (l.drop (n + 1))).2.2 = true
        · rw [if_pos c2]
          unfold noR
          split <;> rfl
        · have c3 : (partT t l[n] (l.drop (n + 1))).2.2 = false := by simpa using c2
          have e3 : partT t l[n] (l.drop (n + 1)) = noR := makeR_no c3
          rw [if_neg c2, e3, show noR.1 = 0 from rfl, show noR.2.1 = 0 from rfl, addR_noR]
          rfl
      · rw [if_pos (hc.mpr c), if_neg c]
    · simp only [impl_TimeOf.l0]
      rw [if_neg (by omega), List.drop_of_length_le (by omega)]
      simp [timeL]
theorem impl_TimeOf.ok (l : List Tmp) (t : Int) (hm : l.length ≤ 1048576) (k : Nat) (hk : 3 * l.length + 1000000000000020 < k) : impl_TimeOf.f k l t = some (timeOf l t) := by
  obtain ⟨k, rfl⟩ : ∃ m, k = m + 1 := ⟨k - 1, by omega⟩
  unfold impl_TimeOf.f timeOf
  rw [impl_IsTempo.ok l (by omega) _ (by omega), impl_InRange.ok]
  simp only [Option.bind_some, impl_TimeOf.j0]
  by_cases hs : isTempoB l = true
  · have hl := impl_TimeOf.loop l t hm hs l.length k 0 0 1 (by omega) (by omega)
    simp only [List.drop_zero] at hl
    by_cases hr : (0 : Int) ≤ t ∧ t ≤ 2000
    · simp only [hs, hr, and_self, decide_true, Bool.not_true, Bool.false_eq_true, if_true, if_false]
      exact hl
    · simp [hs, hr, noR]
  · simp [hs, noR]
end Go.Proofs.Ytinbdgngpkbgcaa.F
