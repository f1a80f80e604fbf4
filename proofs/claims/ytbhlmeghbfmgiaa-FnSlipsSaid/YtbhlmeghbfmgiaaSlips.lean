/- Slips: what their test and their count come to. -/
import Derived.Test.YtbhlmeghbfmgiaaInts
import Derived.Test.YtbhlmeghbfmgiaaF125
import Derived.Test.YtbhlmeghbfmgiaaF133
namespace Go.Proofs.Ytbhlmeghbfmgiaa.F
open Go.RowKit Go.Proofs.Ytbhlmeghbfmgiaa.Opened Go.Proofs.YtbhlmeghbfmgiaaW.PrintWords Go.Proofs.YtbhlmeghbfmgiaaW.PrintLast Go.Proofs.YtbhlmeghbfmgiaaW.PrintMore
set_option linter.unusedVariables false
set_option linter.unusedSimpArgs false

abbrev Slp := S63
def mo (a f : Int) : Int := if f = 3 then a else a - 1
def gtS : Option Slp → Slp → Bool
  | none, _ => true
  | some q, e => decide (¬ q.f1 ≤ e.f1)
def stepS (a : Int) (q : Option Slp) (e : Slp) : Bool := decide (1 ≤ e.f0 ∧ e.f0 ≤ 3) && (decide (0 ≤ e.f1 ∧ e.f1 ≤ mo a e.f0) && (decide (0 ≤ e.f2 ∧ e.f2 ≤ 127) && ((decide (¬ e.f0 = 2) || decide (e.f2 = 0)) && gtS q e)))
def slB (a : Int) : Option Slp → List Slp → Bool
  | _, [] => true
  | q, e :: l => stepS a q e && slB a (some e) l
def isSlipsB (l : List Slp) (a : Int) : Bool := decide (0 ≤ a ∧ a ≤ 1000) && (slB a none l && decide (l.length ≤ 8))
def prevS (l : List Slp) (n : Nat) : Option Slp := if n = 0 then none else l[n - 1]?
theorem prevS_next (l : List Slp) (n : Nat) (h : n < l.length) : prevS l (n + 1) = some l[n] := by simp [prevS, h]
theorem prevS_pos (l : List Slp) (n : Nat) (h0 : n ≠ 0) (h : n - 1 < l.length) : prevS l n = some l[n - 1] := by simp [prevS, h0, h]
theorem prevIfS (l : List Slp) (n : Nat) (h : n < l.length) (hm : l.length ≤ 9223372036854775807) (R : Option Bool) : (if (n : Int) > 0 then (if 0 ≤ wrap64 ((n : Int) - 1) then (if wrap64 ((n : Int) - 1) < (l.length : Int) then (if (rd_T63 l (wrap64 ((n : Int) - 1))).f1 ≤ l[n].f1 then some false else R) else none) else none) else R) = if gtS (prevS l n) l[n] = true then R else some false := by
  by_cases h0 : n = 0
  · subst h0
    simp [prevS, gtS]
  · have e : wrap64 ((n : Int) - 1) = ((n - 1 : Nat) : Int) := by unfold wrap64; omega
    rw [if_pos (by omega), e, if_pos (by omega), if_pos (by omega), rdT63 l (n - 1) (by omega), prevS_pos l n h0 (by omega)]
    by_cases c : l[n - 1].f1 ≤ l[n].f1
    · rw [if_pos c]
      simp [gtS, c]
    · rw [if_neg c]
      have c' : l[n].f1 < l[n - 1].f1 := by omega
      simp [gtS, c']
theorem slStep (a : Int) (q : Option Slp) (e : Slp) (R : Option Bool) : (if decide (1 ≤ e.f0 ∧ e.f0 ≤ 3) = true then (if decide (0 ≤ e.f1 ∧ e.f1 ≤ mo a e.f0) = true then (if decide (0 ≤ e.f2 ∧ e.f2 ≤ 127) = true then (if e.f0 = 2 then (if e.f2 = 0 then (if gtS q e = true then R else some false) else some false) else (if gtS q e = true then R else some false)) else some false) else some false) else some false) = if stepS a q e = true then R else some false := by
  unfold stepS
  by_cases c1 : decide (1 ≤ e.f0 ∧ e.f0 ≤ 3) = true
  · by_cases c2 : decide (0 ≤ e.f1 ∧ e.f1 ≤ mo a e.f0) = true
    · by_cases c3 : decide (0 ≤ e.f2 ∧ e.f2 ≤ 127) = true
      · rw [if_pos c1, if_pos c2, if_pos c3, c1, c2, c3]
        by_cases c4 : e.f0 = 2
        · by_cases c5 : e.f2 = 0
          · simp only [c4, c5, if_true, decide_true, Bool.or_true, Bool.true_and]
          · simp only [c4, c5, if_true, if_false, decide_true, decide_false, not_true_eq_false, Bool.or_false, Bool.false_and, Bool.and_false, Bool.false_eq_true]
        · simp only [c4, if_false, decide_true, not_false_eq_true, Bool.true_or, Bool.true_and]
      · rw [if_pos c1, if_pos c2, if_neg c3, Bool.eq_false_iff.mpr c3]
        simp
    · rw [if_pos c1, if_neg c2, Bool.eq_false_iff.mpr c2]
      simp
  · rw [if_neg c1, Bool.eq_false_iff.mpr c1]
    simp
theorem impl_AreSlips.loop (l : List Slp) (a : Int) (ha : 0 ≤ a ∧ a ≤ 1000) (hm : l.length ≤ 9223372036854775807) : ∀ (d k n : Nat), l.length - n ≤ d → 2 * d + 1 < k → impl_AreSlips.l0 k l a l l.length (n : Int) = some (slB a (prevS l n) (l.drop n)) := by
  intro d
  induction d with
  | zero =>
    intro k n hd hk
    obtain ⟨k, rfl⟩ : ∃ m, k = m + 1 := ⟨k - 1, by omega⟩
    simp only [impl_AreSlips.l0]
    rw [if_neg (by omega), List.drop_of_length_le (by omega)]
    simp [slB]
  | succ d ih =>
    intro k n hd hk
    obtain ⟨k, rfl⟩ : ∃ m, k = m + 2 := ⟨k - 2, by omega⟩
    by_cases h : n < l.length
    · have hw : wrap64 (a - 1) = a - 1 := by unfold wrap64; omega
      simp only [impl_AreSlips.l0]
      rw [if_pos (by omega), if_pos (by omega), if_pos (by omega), rdT63 l n h, hw, List.drop_eq_getElem_cons h]
      have ih' := ih k (n + 1) (by omega) (by omega)
      rw [prevS_next l n h] at ih'
      have e : (if l[n].f0 = 3 then impl_AreSlips.j2 (k + 1) l a n a l l.length n l[n].f0 l[n].f1 l[n].f2 else impl_AreSlips.j2 (k + 1) l a n (a - 1) l l.length n l[n].f0 l[n].f1 l[n].f2) = impl_AreSlips.j2 (k + 1) l a n (mo a l[n].f0) l l.length n l[n].f0 l[n].f1 l[n].f2 := by
        unfold mo
        by_cases c : l[n].f0 = 3
        · rw [if_pos c, if_pos c]
        · rw [if_neg c, if_neg c]
      rw [e]
      simp only [impl_AreSlips.j2, impl_InRange.ok, Option.bind_some]
      rw [prevIfS l n h hm, slStep, w1 h hm, ih']
      simp only [slB]
      cases stepS a (prevS l n) l[n] <;> simp
    · simp only [impl_AreSlips.l0]
      rw [if_neg (by omega), List.drop_of_length_le (by omega)]
      simp [slB]
theorem impl_AreSlips.ok (l : List Slp) (a : Int) (hm : l.length ≤ 9223372036854775807) (k : Nat) (hk : 2 * l.length + 3 < k) : impl_AreSlips.f k l a = some (isSlipsB l a) := by
  obtain ⟨k, rfl⟩ : ∃ m, k = m + 1 := ⟨k - 1, by omega⟩
  unfold impl_AreSlips.f isSlipsB
  by_cases hl : (l.length : Int) > 8
  · have h8 : ¬ l.length ≤ 8 := by omega
    rw [if_pos hl]
    simp [impl_AreSlips.j0, h8]
  · have h8 : l.length ≤ 8 := by omega
    rw [if_neg hl, impl_InRange.ok]
    simp only [Option.bind_some, impl_AreSlips.j0]
    by_cases ha : 0 ≤ a ∧ a ≤ 1000
    · rw [if_neg (by simp [ha])]
      rw [show (0 : Int) = ((0 : Nat) : Int) from rfl, impl_AreSlips.loop l a ha hm l.length k 0 (by omega) (by omega)]
      simp [ha, prevS, h8]
    · rw [if_pos (by simp [ha])]
      simp [ha]
theorem slB_mem (a : Int) : ∀ (l : List Slp) (q : Option Slp), slB a q l = true → ∀ x ∈ l, ∃ p, stepS a p x = true := by
  intro l
  induction l with
  | nil => intro q h x hx; simp at hx
  | cons e l ih =>
    intro q h x hx
    simp only [slB, Bool.and_eq_true] at h
    rcases List.mem_cons.mp hx with rfl | hx
    · exact ⟨q, h.1⟩
    · exact ih _ h.2 x hx
theorem isSlipsB_at {l : List Slp} {a : Int} (h : isSlipsB l a = true) (x : Slp) (hx : x ∈ l) (h1 : x.f0 = 1) : 0 ≤ x.f1 ∧ x.f1 < a := by
  unfold isSlipsB at h
  simp only [Bool.and_eq_true] at h
  obtain ⟨p, hp⟩ := slB_mem a l none h.2.1 x hx
  unfold stepS mo at hp
  simp only [Bool.and_eq_true, decide_eq_true_eq, h1] at hp
  have := hp.2.1
  rw [if_neg (by omega)] at this
  omega
def cntR (ps : List Int) (c : Int) : List Slp → Int
  | [] => c
  | e :: l => cntR ps (if e.f0 = 1 ∧ rd ps e.f1 = e.f2 then c else wrap64 (c + 1)) l
def countReal (ps : List Int) (l : List Slp) : Int := if isSlipsB l ps.length = true then cntR ps 0 l else 0
theorem impl_CountReal.loop (ps : List Int) (l : List Slp) (hm : l.length ≤ 9223372036854775807) (hs : isSlipsB l ps.length = true) : ∀ (d k : Nat) (c : Int) (n : Nat), l.length - n ≤ d → d < k → impl_CountReal.l0 k ps c l l.length (n : Int) = some (cntR ps c (l.drop n)) := by
  intro d
  induction d with
  | zero =>
    intro k c n hd hk
    obtain ⟨k, rfl⟩ : ∃ m, k = m + 1 := ⟨k - 1, by omega⟩
    simp only [impl_CountReal.l0]
    rw [if_neg (by omega), List.drop_of_length_le (by omega)]
    rfl
  | succ d ih =>
    intro k c n hd hk
    obtain ⟨k, rfl⟩ : ∃ m, k = m + 1 := ⟨k - 1, by omega⟩
    by_cases h : n < l.length
    · simp only [impl_CountReal.l0]
      rw [if_pos (by omega), if_pos (by omega), if_pos (by omega), rdT63 l n h, w1 h hm, List.drop_eq_getElem_cons h]
      have ih' := fun c => ih k c (n + 1) (by omega) (by omega)
      simp only [cntR, ih']
      have hx := isSlipsB_at hs l[n] (List.getElem_mem h)
      by_cases c1 : l[n].f0 = 1
      · have := hx c1
        rw [if_pos c1, if_pos this.1, if_pos this.2]
        by_cases c2 : rd ps l[n].f1 = l[n].f2
        · simp only [c1, c2, and_self, if_true]
        · simp only [c1, c2, and_false, if_false]
      · simp only [c1, false_and, if_false]
    · simp only [impl_CountReal.l0]
      rw [if_neg (by omega), List.drop_of_length_le (by omega)]
      rfl
theorem impl_CountReal.ok (ps : List Int) (l : List Slp) (hm : l.length ≤ 9223372036854775807) (k : Nat) (hk : 2 * l.length + 3 < k) : impl_CountReal.f k ps l = some (countReal ps l) := by
  unfold impl_CountReal.f countReal
  rw [impl_AreSlips.ok l _ hm k hk]
  simp only [Option.bind_some]
  by_cases hs : isSlipsB l ps.length = true
  · rw [if_pos hs, if_pos hs]
    exact impl_CountReal.loop ps l hm hs l.length k 0 0 (by omega) (by omega)
  · rw [if_neg hs, if_neg hs]
end Go.Proofs.Ytbhlmeghbfmgiaa.F
