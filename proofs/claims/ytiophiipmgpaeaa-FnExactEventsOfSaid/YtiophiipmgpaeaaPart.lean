/- Parts: what their test comes to, and their events. -/
import Derived.Test.YtiophiipmgpaeaaInts
import Derived.Test.YtiophiipmgpaeaaF38
import Derived.Test.YtiophiipmgpaeaaF42
import Derived.Test.YtiophiipmgpaeaaF39
import Derived.Test.YtiophiipmgpaeaaF43
namespace Go.Proofs.Ytiophiipmgpaeaa.F
open Go.RowKit Go.Proofs.Ytiophiipmgpaeaa.Opened Go.Proofs.YtiophiipmgpaeaaW.PrintWords Go.Proofs.YtiophiipmgpaeaaW.PrintLast Go.Proofs.YtiophiipmgpaeaaW.PrintMore
set_option linter.unusedVariables false
set_option linter.unusedSimpArgs false

abbrev Sgn := S116
def noRest : Option Sgn → Bool
  | none => true
  | some q => decide (¬ q.f2 = 0)
def stepP (a : Int) (q : Option Sgn) (e : Sgn) : Bool := decide (e.f0 = a) && (decide (1 ≤ e.f1 ∧ e.f1 ≤ 3000) && (if e.f2 = 0 then noRest q else (decide (21 ≤ e.f2 ∧ e.f2 ≤ 108) && decide (¬ e.f1 > 96))))
def ptB (a : Int) : Option Sgn → List Sgn → Bool
  | _, [] => true
  | q, e :: l => stepP a q e && ptB (wrap64 (a + e.f1)) (some e) l
def isPartB (l : List Sgn) : Bool := ptB 0 none l
def prevG (l : List Sgn) (n : Nat) : Option Sgn := if n = 0 then none else l[n - 1]?
theorem prevG_next (l : List Sgn) (n : Nat) (h : n < l.length) : prevG l (n + 1) = some l[n] := by simp [prevG, h]
theorem prevG_pos (l : List Sgn) (n : Nat) (h0 : n ≠ 0) (h : n - 1 < l.length) : prevG l n = some l[n - 1] := by simp [prevG, h0, h]
theorem prevIfG (l : List Sgn) (n : Nat) (h : n < l.length) (hm : l.length ≤ 9223372036854775807) (R : Option Bool) : (if (n : Int) > 0 then (if 0 ≤ wrap64 ((n : Int) - 1) then (if wrap64 ((n : Int) - 1) < (l.length : Int) then (if (rd_T116 l (wrap64 ((n : Int) - 1))).f2 = 0 then some false else R) else none) else none) else R) = if noRest (prevG l n) = true then R else some false := by
  by_cases h0 : n = 0
  · subst h0
    simp [prevG, noRest]
  · have e : wrap64 ((n : Int) - 1) = ((n - 1 : Nat) : Int) := by unfold wrap64; omega
    rw [if_pos (by omega), e, if_pos (by omega), if_pos (by omega), rdT116 l (n - 1) (by omega), prevG_pos l n h0 (by omega)]
    by_cases c : l[n - 1].f2 = 0
    · rw [if_pos c]
      simp [noRest, c]
    · rw [if_neg c]
      simp [noRest, c]
theorem pStep (a : Int) (q : Option Sgn) (e : Sgn) (R : Option Bool) : (if e.f0 = a then (if decide (1 ≤ e.f1 ∧ e.f1 ≤ 3000) = true then (if e.f2 = 0 then (if noRest q = true then R else some false) else (if decide (21 ≤ e.f2 ∧ e.f2 ≤ 108) = true then (if e.f1 > 96 then some false else R) else some false)) else some false) else some false) = if stepP a q e = true then R else some false := by
  unfold stepP
  by_cases c1 : e.f0 = a
  · by_cases c2 : decide (1 ≤ e.f1 ∧ e.f1 ≤ 3000) = true
    · rw [if_pos c1, if_pos c2, c2]
      by_cases c3 : e.f2 = 0
      · rw [if_pos c3, if_pos c3]
        simp [c1]
      · rw [if_neg c3, if_neg c3]
        by_cases c4 : decide (21 ≤ e.f2 ∧ e.f2 ≤ 108) = true
        · rw [if_pos c4, c4]
          by_cases c5 : e.f1 > 96
          · rw [if_pos c5]
            simp [c5]
          · rw [if_neg c5]
            simp [c5, c1]
        · rw [if_neg c4, Bool.eq_false_iff.mpr c4]
          simp
    · rw [if_pos c1, if_neg c2, Bool.eq_false_iff.mpr c2]
      simp
  · rw [if_neg c1]
    simp [c1]
theorem spec_IsPart.loop (l : List Sgn) (hm : l.length ≤ 9223372036854775807) : ∀ (d k : Nat) (a : Int) (n : Nat), l.length - n ≤ d → d < k → spec_IsPart.l0 k l a (n : Int) = some (ptB a (prevG l n) (l.drop n)) := by
  intro d
  induction d with
  | zero =>
    intro k a n hd hk
    obtain ⟨k, rfl⟩ : ∃ m, k = m + 1 := ⟨k - 1, by omega⟩
    simp only [spec_IsPart.l0]
    rw [if_neg (by omega), List.drop_of_length_le (by omega)]
    simp [ptB]
  | succ d ih =>
    intro k a n hd hk
    obtain ⟨k, rfl⟩ : ∃ m, k = m + 1 := ⟨k - 1, by omega⟩
    by_cases h : n < l.length
    · simp only [spec_IsPart.l0, spec_l1In.ok, Option.bind_some, ite_self]
      rw [if_pos (by omega), if_pos (by omega), rdT116 l n h, prevIfG l n h hm, pStep, w1 h hm, List.drop_eq_getElem_cons h]
      have ih' := fun a => ih k a (n + 1) (by omega) (by omega)
      simp only [ih', prevG_next l n h, ptB]
      cases stepP a (prevG l n) l[n] <;> simp
    · simp only [spec_IsPart.l0]
      rw [if_neg (by omega), List.drop_of_length_le (by omega)]
      simp [ptB]
theorem spec_IsPart.ok (l : List Sgn) (hm : l.length ≤ 9223372036854775807) (k : Nat) (hk : l.length < k) : spec_IsPart.f k l = some (isPartB l) := by
  unfold spec_IsPart.f
  exact spec_IsPart.loop l hm l.length k 0 0 (by omega) hk
theorem pStep' (a : Int) (q : Option Sgn) (e : Sgn) (R : Option Bool) : (if e.f0 = a then (if decide (1 ≤ e.f1 ∧ e.f1 ≤ 3000) = true then (if e.f2 = 0 then (if e.f2 = 0 then (if noRest q = true then R else some false) else R) else (if decide (21 ≤ e.f2 ∧ e.f2 ≤ 108) = true then (if e.f1 > 96 then some false else (if e.f2 = 0 then (if noRest q = true then R else some false) else R)) else some false)) else some false) else some false) = if stepP a q e = true then R else some false := by
  rw [← pStep]
  by_cases c3 : e.f2 = 0
  · simp only [c3, if_true]
  · simp only [c3, if_false]
theorem impl_IsPart.loop (l : List Sgn) (hm : l.length ≤ 9223372036854775807) : ∀ (d k : Nat) (a : Int) (n : Nat), l.length - n ≤ d → d < k → impl_IsPart.l0 k l a l l.length (n : Int) = some (ptB a (prevG l n) (l.drop n)) := by
  intro d
  induction d with
  | zero =>
    intro k a n hd hk
    obtain ⟨k, rfl⟩ : ∃ m, k = m + 1 := ⟨k - 1, by omega⟩
    simp only [impl_IsPart.l0]
    rw [if_neg (by omega), List.drop_of_length_le (by omega)]
    simp [ptB]
  | succ d ih =>
    intro k a n hd hk
    obtain ⟨k, rfl⟩ : ∃ m, k = m + 1 := ⟨k - 1, by omega⟩
    by_cases h : n < l.length
    · simp only [impl_IsPart.l0, impl_InRange.ok, Option.bind_some]
      rw [if_pos (by omega), if_pos (by omega), if_pos (by omega), rdT116 l n h, prevIfG l n h hm, pStep', w1 h hm, List.drop_eq_getElem_cons h]
      have ih' := fun a => ih k a (n + 1) (by omega) (by omega)
      simp only [ih', prevG_next l n h, ptB]
      cases stepP a (prevG l n) l[n] <;> simp
    · simp only [impl_IsPart.l0]
      rw [if_neg (by omega), List.drop_of_length_le (by omega)]
      simp [ptB]
theorem impl_IsPart.ok (l : List Sgn) (hm : l.length ≤ 9223372036854775807) (k : Nat) (hk : l.length < k) : impl_IsPart.f k l = some (isPartB l) := by
  unfold impl_IsPart.f
  exact impl_IsPart.loop l hm l.length k 0 0 (by omega) hk
def evsL (v : Int) : List Sgn → List S118
  | [] => []
  | e :: l => if e.f2 = 0 then evsL v l else ⟨e.f0, e.f1, e.f2, v⟩ :: evsL v l
def evsOf (l : List Sgn) (v : Int) : List S118 := if isPartB l = true then evsL v l else []
theorem evsL_length (v : Int) (l : List Sgn) : (evsL v l).length ≤ l.length := by
  induction l with
  | nil => simp [evsL]
  | cons e l ih =>
    simp only [evsL]
    split <;> simp <;> omega
theorem evsOf_length (l : List Sgn) (v : Int) : (evsOf l v).length ≤ l.length := by
  unfold evsOf
  split
  · exact evsL_length v l
  · simp
theorem spec_EventsOf.loop (l : List Sgn) (v : Int) (hm : l.length ≤ 1048576) (hp : isPartB l = true) : ∀ (d k : Nat) (acc : List S118) (n : Nat), acc.length ≤ n → l.length - n ≤ d → 2 * d + l.length + 3 < k → spec_EventsOf.l0 k l v acc (n : Int) = some (acc ++ evsL v (l.drop n)) := by
  intro d
  induction d with
  | zero =>
    intro k acc n ha hd hk
    obtain ⟨k, rfl⟩ : ∃ m, k = m + 2 := ⟨k - 2, by omega⟩
    simp only [spec_EventsOf.l0, spec_EventsOf.j1]
    rw [if_neg (by omega), List.drop_of_length_le (by omega)]
    simp [evsL]
  | succ d ih =>
    intro k acc n ha hd hk
    obtain ⟨k, rfl⟩ : ∃ m, k = m + 2 := ⟨k - 2, by omega⟩
    by_cases h : n < l.length
    · simp only [spec_EventsOf.l0]
      rw [if_pos (by omega), spec_IsPart.ok l (by omega) _ (by omega), hp]
      simp only [Option.bind_some, spec_EventsOf.j1, if_true]
      rw [if_pos (by omega), if_pos (by omega), rdT116 l n h, w1 h (by omega), List.drop_eq_getElem_cons h]
      by_cases c : l[n].f2 = 0
      · rw [if_pos c, ih k acc (n + 1) (by omega) (by omega) (by omega)]
        simp [evsL, c]
      · rw [if_neg c, if_pos (by omega), ih k _ (n + 1) (by simp; omega) (by omega) (by omega)]
        simp [evsL, c]
    · simp only [spec_EventsOf.l0, spec_EventsOf.j1]
      rw [if_neg (by omega), List.drop_of_length_le (by omega)]
      simp [evsL]
theorem spec_EventsOf.ok (l : List Sgn) (v : Int) (hm : l.length ≤ 1048576) (k : Nat) (hk : 3 * l.length + 5 < k) : spec_EventsOf.f k l v = some (evsOf l v) := by
  unfold spec_EventsOf.f evsOf
  by_cases hp : isPartB l = true
  · rw [if_pos hp]
    exact spec_EventsOf.loop l v hm hp l.length k [] 0 (by simp) (by omega) (by omega)
  · rw [if_neg hp]
    obtain ⟨k, rfl⟩ : ∃ m, k = m + 2 := ⟨k - 2, by omega⟩
    simp only [spec_EventsOf.l0, spec_EventsOf.j1]
    by_cases h : (0 : Int) < (l.length : Int)
    · rw [if_pos h, spec_IsPart.ok l (by omega) _ (by omega)]
      simp only [Option.bind_some]
      rw [if_neg hp]
    · rw [if_neg h]
      rfl
theorem impl_EventsOf.loop (l : List Sgn) (v : Int) (hm : l.length ≤ 1048576) : ∀ (d k : Nat) (acc : List S118) (n : Nat), acc.length ≤ n → l.length - n ≤ d → d < k → impl_EventsOf.l0 k v acc l l.length (n : Int) = some (acc ++ evsL v (l.drop n)) := by
  intro d
  induction d with
  | zero =>
    intro k acc n ha hd hk
    obtain ⟨k, rfl⟩ : ∃ m, k = m + 1 := ⟨k - 1, by omega⟩
    simp only [impl_EventsOf.l0]
    rw [if_neg (by omega), List.drop_of_length_le (by omega)]
    simp [evsL]
  | succ d ih =>
    intro k acc n ha hd hk
    obtain ⟨k, rfl⟩ : ∃ m, k = m + 1 := ⟨k - 1, by omega⟩
    by_cases h : n < l.length
    · simp only [impl_EventsOf.l0]
      rw [if_pos (by omega), if_pos (by omega), if_pos (by omega), rdT116 l n h, w1 h (by omega), List.drop_eq_getElem_cons h]
      by_cases c : l[n].f2 = 0
      · rw [if_pos c, ih k acc (n + 1) (by omega) (by omega) (by omega)]
        simp [evsL, c]
      · rw [if_neg c, if_pos (by omega), ih k _ (n + 1) (by simp; omega) (by omega) (by omega)]
        simp [evsL, c]
    · simp only [impl_EventsOf.l0]
      rw [if_neg (by omega), List.drop_of_length_le (by omega)]
      simp [evsL]
theorem impl_EventsOf.ok (l : List Sgn) (v : Int) (hm : l.length ≤ 1048576) (k : Nat) (hk : 3 * l.length + 5 < k) : impl_EventsOf.f k l v = some (evsOf l v) := by
  unfold impl_EventsOf.f evsOf
  simp only [Option.bind_some]
  rw [impl_IsPart.ok l (by omega) _ (by omega)]
  simp only [Option.bind_some]
  by_cases hp : isPartB l = true
  · rw [if_pos hp, if_pos hp]
    exact impl_EventsOf.loop l v hm l.length k [] 0 (by simp) (by omega) (by omega)
  · rw [if_neg hp, if_neg hp]
end Go.Proofs.Ytiophiipmgpaeaa.F
