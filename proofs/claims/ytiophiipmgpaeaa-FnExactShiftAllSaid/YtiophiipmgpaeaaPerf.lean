/- Performances: what their test comes to. -/
import Derived.Test.YtiophiipmgpaeaaInts
import Derived.Test.YtiophiipmgpaeaaF17
import Derived.Test.YtiophiipmgpaeaaF21
namespace Go.Proofs.Ytiophiipmgpaeaa.F
open Go.RowKit Go.Proofs.Ytiophiipmgpaeaa.Opened Go.Proofs.YtiophiipmgpaeaaW.PrintWords Go.Proofs.YtiophiipmgpaeaaW.PrintLast Go.Proofs.YtiophiipmgpaeaaW.PrintMore
set_option linter.unusedVariables false
set_option linter.unusedSimpArgs false

abbrev Pld := S109
def okP (e : Pld) : Prop := ((0 : Int) ≤ e.f0 ∧ e.f0 ≤ 10000000) ∧ ((0 : Int) ≤ e.f1 ∧ e.f1 ≤ 127)
instance (e : Pld) : Decidable (okP e) := by unfold okP; infer_instance
/-- Sounds in order: by time, then pitch; the same sound twice is let. -/
def leP (a b : Pld) : Prop := a.f0 < b.f0 ∨ (a.f0 = b.f0 ∧ a.f1 ≤ b.f1)
instance (a b : Pld) : Decidable (leP a b) := by unfold leP; infer_instance
theorem leP_trans {a b c : Pld} (h : leP a b) (h' : leP b c) : leP a c := by unfold leP at *; omega
theorem leP_total (a b : Pld) : leP a b ∨ leP b a := by unfold leP; omega
def pfB : Option Pld → List Pld → Bool
  | _, [] => true
  | none, e :: l => decide (okP e) && pfB (some e) l
  | some q, e :: l => decide (okP e) && (decide (leP q e) && pfB (some e) l)
def isPerfB (l : List Pld) : Bool := pfB none l && decide (l.length ≤ 60)
theorem pfB_some (q : Pld) (l : List Pld) : pfB (some q) l = true ↔ (∀ x ∈ l, okP x) ∧ l.Pairwise leP ∧ ∀ x ∈ l, leP q x := by
  induction l generalizing q with
  | nil => simp [pfB]
  | cons e l ih =>
    simp only [pfB, Bool.and_eq_true, decide_eq_true_eq, ih e, List.mem_cons, forall_eq_or_imp, List.pairwise_cons]
    constructor
    · rintro ⟨h1, h2, h3, h4, h5⟩
      exact ⟨⟨h1, h3⟩, ⟨h5, h4⟩, h2, fun x hx => leP_trans h2 (h5 x hx)⟩
    · rintro ⟨⟨h1, h3⟩, ⟨h5, h4⟩, h2, h6⟩
      exact ⟨h1, h2, h3, h4, h5⟩
theorem pfB_none (l : List Pld) : pfB none l = true ↔ (∀ x ∈ l, okP x) ∧ l.Pairwise leP := by
  cases l with
  | nil => simp [pfB]
  | cons e l =>
    simp only [pfB, Bool.and_eq_true, decide_eq_true_eq, pfB_some, List.mem_cons, forall_eq_or_imp, List.pairwise_cons]
    constructor
    · rintro ⟨h1, h3, h4, h5⟩
      exact ⟨⟨h1, h3⟩, h5, h4⟩
    · rintro ⟨⟨h1, h3⟩, h5, h4⟩
      exact ⟨h1, h3, h4, h5⟩
theorem isPerfB_iff (l : List Pld) : isPerfB l = true ↔ (∀ x ∈ l, okP x) ∧ l.Pairwise leP ∧ l.length ≤ 60 := by
  unfold isPerfB
  rw [Bool.and_eq_true, pfB_none, decide_eq_true_eq, and_assoc]
def prevP (l : List Pld) (n : Nat) : Option Pld := if n = 0 then none else l[n - 1]?
theorem prevP_next (l : List Pld) (n : Nat) (h : n < l.length) : prevP l (n + 1) = some l[n] := by simp [prevP, h]
theorem prevP_pos (l : List Pld) (n : Nat) (h0 : n ≠ 0) (h : n - 1 < l.length) : prevP l n = some l[n - 1] := by simp [prevP, h0, h]
theorem spec_IsPerformance.loop (l : List Pld) (hm : l.length ≤ 9223372036854775807) : ∀ (d k n : Nat), l.length - n ≤ d → d < k → spec_IsPerformance.l0 k l (n : Int) = some (pfB (prevP l n) (l.drop n) && decide (l.length ≤ 60)) := by
  intro d
  induction d with
  | zero =>
    intro k n hd hk
    obtain ⟨k, rfl⟩ : ∃ m, k = m + 1 := ⟨k - 1, by omega⟩
    simp only [spec_IsPerformance.l0]
    rw [if_neg (by omega), List.drop_of_length_le (by omega)]
    have e : ((l.length : Int) ≤ 60) ↔ l.length ≤ 60 := by omega
    simp [pfB, e]
  | succ d ih =>
    intro k n hd hk
    obtain ⟨k, rfl⟩ : ∃ m, k = m + 1 := ⟨k - 1, by omega⟩
    by_cases h : n < l.length
    · simp only [spec_IsPerformance.l0, spec_l1In.ok, Option.bind_some]
      rw [if_pos (by omega), if_pos (by omega), rdT109 l n h, w1 h hm, List.drop_eq_getElem_cons h]
      have ih' := ih k (n + 1) (by omega) (by omega)
      rw [prevP_next l n h] at ih'
      by_cases c1 : (0 : Int) ≤ l[n].f0 ∧ l[n].f0 ≤ (10000000 : Int)
      · by_cases c2 : (0 : Int) ≤ l[n].f1 ∧ l[n].f1 ≤ (127 : Int)
        · have ok : okP l[n] := ⟨c1, c2⟩
          rw [if_pos (by simpa using c1), if_pos (by simpa using c2)]
          by_cases c3 : n = 0
          · subst c3
            rw [if_neg (by omega), ih']
            simp [prevP, pfB, ok]
          · have e : wrap64 ((n : Int) - 1) = ((n - 1 : Nat) : Int) := by unfold wrap64; omega
            rw [if_pos (by omega), e, if_pos (by omega), if_pos (by omega), rdT109 l (n - 1) (by omega), prevP_pos l n c3 (by omega), ih']
            by_cases c4 : l[n - 1].f0 > l[n].f0
            · rw [if_pos c4]
              have : ¬ leP l[n - 1] l[n] := by unfold leP; omega
              simp [pfB, this]
            · rw [if_neg c4]
              by_cases c5 : l[n - 1].f0 = l[n].f0
              · rw [if_pos c5]
                by_cases c6 : l[n - 1].f1 > l[n].f1
                · rw [if_pos c6]
                  have : ¬ leP l[n - 1] l[n] := by unfold leP; omega
                  simp [pfB, this]
                · rw [if_neg c6]
                  have : leP l[n - 1] l[n] := by unfold leP; omega
                  simp [pfB, ok, this]
              · rw [if_neg c5]
                have : leP l[n - 1] l[n] := by unfold leP; omega
                simp [pfB, ok, this]
        · have ok : ¬ okP l[n] := fun h => c2 h.2
          rw [if_pos (by simpa using c1), if_neg (by simpa using c2)]
          cases prevP l n <;> simp [pfB, ok]
      · have ok : ¬ okP l[n] := fun h => c1 h.1
        rw [if_neg (by simpa using c1)]
        cases prevP l n <;> simp [pfB, ok]
    · simp only [spec_IsPerformance.l0]
      rw [if_neg (by omega), List.drop_of_length_le (by omega)]
      have e : ((l.length : Int) ≤ 60) ↔ l.length ≤ 60 := by omega
      simp [pfB, e]
theorem spec_IsPerformance.ok (l : List Pld) (hm : l.length ≤ 9223372036854775807) (k : Nat) (hk : l.length < k) : spec_IsPerformance.f k l = some (isPerfB l) := by
  unfold spec_IsPerformance.f
  exact spec_IsPerformance.loop l hm l.length k 0 (by omega) hk
theorem impl_IsPerformance.loop (l : List Pld) (hm : l.length ≤ 9223372036854775807) : ∀ (d k n : Nat), l.length - n ≤ d → d < k → impl_IsPerformance.l0 k l l l.length (n : Int) = some (pfB (prevP l n) (l.drop n) && decide (l.length ≤ 60)) := by
  intro d
  induction d with
  | zero =>
    intro k n hd hk
    obtain ⟨k, rfl⟩ : ∃ m, k = m + 1 := ⟨k - 1, by omega⟩
    simp only [impl_IsPerformance.l0]
    rw [if_neg (by omega), List.drop_of_length_le (by omega)]
    have e : ((l.length : Int) ≤ 60) ↔ l.length ≤ 60 := by omega
    simp [pfB, e]
  | succ d ih =>
    intro k n hd hk
    obtain ⟨k, rfl⟩ : ∃ m, k = m + 1 := ⟨k - 1, by omega⟩
    by_cases h : n < l.length
    · simp only [impl_IsPerformance.l0, impl_InRange.ok, Option.bind_some]
      rw [if_pos (by omega), if_pos (by omega), if_pos (by omega), rdT109 l n h, w1 h hm, List.drop_eq_getElem_cons h]
      have ih' := ih k (n + 1) (by omega) (by omega)
      rw [prevP_next l n h] at ih'
      by_cases c1 : (0 : Int) ≤ l[n].f0 ∧ l[n].f0 ≤ (10000000 : Int)
      · by_cases c2 : (0 : Int) ≤ l[n].f1 ∧ l[n].f1 ≤ (127 : Int)
        · have ok : okP l[n] := ⟨c1, c2⟩
          rw [if_pos (by simpa using c1), if_pos (by simpa using c2)]
          by_cases c3 : n = 0
          · subst c3
            rw [if_neg (by omega), ih']
            simp [prevP, pfB, ok]
          · have e : wrap64 ((n : Int) - 1) = ((n - 1 : Nat) : Int) := by unfold wrap64; omega
            rw [if_pos (by omega), e, if_pos (by omega), if_pos (by omega), rdT109 l (n - 1) (by omega), prevP_pos l n c3 (by omega), ih']
            by_cases c4 : l[n - 1].f0 > l[n].f0
            · rw [if_pos c4]
              have : ¬ leP l[n - 1] l[n] := by unfold leP; omega
              simp [pfB, this]
            · rw [if_neg c4]
              by_cases c5 : l[n - 1].f0 = l[n].f0
              · rw [if_pos c5]
                by_cases c6 : l[n - 1].f1 > l[n].f1
                · rw [if_pos c6]
                  have : ¬ leP l[n - 1] l[n] := by unfold leP; omega
                  simp [pfB, this]
                · rw [if_neg c6]
                  have : leP l[n - 1] l[n] := by unfold leP; omega
                  simp [pfB, ok, this]
              · rw [if_neg c5]
                have : leP l[n - 1] l[n] := by unfold leP; omega
                simp [pfB, ok, this]
        · have ok : ¬ okP l[n] := fun h => c2 h.2
          rw [if_pos (by simpa using c1), if_neg (by simpa using c2)]
          cases prevP l n <;> simp [pfB, ok]
      · have ok : ¬ okP l[n] := fun h => c1 h.1
        rw [if_neg (by simpa using c1)]
        cases prevP l n <;> simp [pfB, ok]
    · simp only [impl_IsPerformance.l0]
      rw [if_neg (by omega), List.drop_of_length_le (by omega)]
      have e : ((l.length : Int) ≤ 60) ↔ l.length ≤ 60 := by omega
      simp [pfB, e]
theorem impl_IsPerformance.ok (l : List Pld) (hm : l.length ≤ 9223372036854775807) (k : Nat) (hk : l.length < k) : impl_IsPerformance.f k l = some (isPerfB l) := by
  unfold impl_IsPerformance.f
  exact impl_IsPerformance.loop l hm l.length k 0 (by omega) hk
end Go.Proofs.Ytiophiipmgpaeaa.F
