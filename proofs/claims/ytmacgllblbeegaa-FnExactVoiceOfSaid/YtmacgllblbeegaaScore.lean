/- Scores: what the tests of events and of scores come to. -/
import Derived.Test.YtmacgllblbeegaaInts
import Derived.Test.YtmacgllblbeegaaF4
import Derived.Test.YtmacgllblbeegaaF5
import Derived.Test.YtmacgllblbeegaaF6
import Derived.Test.YtmacgllblbeegaaF10
import Derived.Test.YtmacgllblbeegaaF11
import Derived.Test.YtmacgllblbeegaaF12
import Derived.Test.YtmacgllblbeegaaF13
import Derived.Test.YtmacgllblbeegaaF14
namespace Go.Proofs.Ytmacgllblbeegaa.F
open Go.RowKit Go.Proofs.Ytmacgllblbeegaa.Opened Go.Proofs.YtmacgllblbeegaaW.PrintWords Go.Proofs.YtmacgllblbeegaaW.PrintLast Go.Proofs.YtmacgllblbeegaaW.PrintMore
set_option linter.unusedVariables false
set_option linter.unusedSimpArgs false

abbrev Evt := S37
/-- An event whose numbers are in range. -/
def okE (e : Evt) : Prop := (0 ≤ e.f0 ∧ e.f0 ≤ 2000) ∧ (1 ≤ e.f1 ∧ e.f1 ≤ 96) ∧ (21 ≤ e.f2 ∧ e.f2 ≤ 108) ∧ (1 ≤ e.f3 ∧ e.f3 ≤ 4)
instance (e : Evt) : Decidable (okE e) := by unfold okE; infer_instance
/-- Events in order: by time, then voice, then pitch. -/
def before (a b : Evt) : Prop := a.f0 < b.f0 ∨ (a.f0 = b.f0 ∧ (a.f3 < b.f3 ∨ (a.f3 = b.f3 ∧ a.f2 < b.f2)))
instance (a b : Evt) : Decidable (before a b) := by unfold before; infer_instance
theorem before_trans {a b c : Evt} (h : before a b) (h' : before b c) : before a c := by unfold before at *; omega
theorem before_irrefl (a : Evt) : ¬ before a a := by unfold before; omega
theorem before_asymm {a b : Evt} (h : before a b) : ¬ before b a := by unfold before at *; omega
theorem spec_l8Ok.ok (e : Evt) : spec_l8Ok.f e.f0 e.f1 e.f2 e.f3 = some (decide (okE e)) := by
  unfold spec_l8Ok.f okE
  simp only [spec_l1In.ok, Option.bind_some]
  by_cases h1 : 0 ≤ e.f0 ∧ e.f0 ≤ 2000 <;> by_cases h2 : 1 ≤ e.f1 ∧ e.f1 ≤ 96 <;> by_cases h3 : 21 ≤ e.f2 ∧ e.f2 ≤ 108 <;> by_cases h4 : 1 ≤ e.f3 ∧ e.f3 ≤ 4 <;> simp [h1, h2, h3, h4]
theorem spec_l8Before.ok (a b : Evt) : spec_l8Before.f a.f0 a.f1 a.f2 a.f3 b.f0 b.f1 b.f2 b.f3 = some (decide (before a b)) := by
  unfold spec_l8Before.f before
  by_cases h1 : a.f0 = b.f0
  · by_cases h2 : a.f3 = b.f3 <;> simp [h1, h2]
  · simp [h1]
def cmpI (a b : Int) : Int := if a < b then -1 else if b < a then 1 else 0
theorem cmp_Compare_int.ok (a b : Int) : cmp_Compare_int.f a b = some (cmpI a b) := by
  unfold cmp_Compare_int.f cmp_isNaN_int.f cmpI
  by_cases h1 : a < b
  · simp [h1]
  · by_cases h2 : b < a <;> simp [h1, h2]
theorem cmp_Or_int.ok3 (x y z : Int) (k : Nat) (hk : 4 ≤ k) : cmp_Or_int.f k [x, y, z] = some (if x = 0 then (if y = 0 then z else y) else x) := by
  obtain ⟨k, rfl⟩ : ∃ m, k = m + 4 := ⟨k - 4, by omega⟩
  have e1 : wrap64 (1 : Int) = 1 := by unfold wrap64; omega
  have e2 : wrap64 (2 : Int) = 2 := by unfold wrap64; omega
  have e3 : wrap64 (3 : Int) = 3 := by unfold wrap64; omega
  by_cases h1 : x = 0
  · by_cases h2 : y = 0
    · by_cases h3 : z = 0 <;> simp [cmp_Or_int.f, cmp_Or_int.l0, rd, h1, h2, h3, e1, e2, e3]
    · simp [cmp_Or_int.f, cmp_Or_int.l0, rd, h1, h2, e1, e2, e3]
  · simp [cmp_Or_int.f, cmp_Or_int.l0, rd, h1, e1, e2, e3]
/-- How two events compare. -/
def ordE (a b : Evt) : Int := if cmpI a.f0 b.f0 = 0 then (if cmpI a.f3 b.f3 = 0 then cmpI a.f2 b.f2 else cmpI a.f3 b.f3) else cmpI a.f0 b.f0
theorem impl_eventOrder.ok (a b : Evt) (k : Nat) (hk : 4 ≤ k) : impl_eventOrder.f k a.f0 a.f1 a.f2 a.f3 b.f0 b.f1 b.f2 b.f3 = some (ordE a b) := by
  unfold impl_eventOrder.f
  simp only [cmp_Compare_int.ok, Option.bind_some, cmp_Or_int.ok3 _ _ _ k hk]
  rfl
theorem ordE_lt (a b : Evt) : ordE a b < 0 ↔ before a b := by
  unfold ordE cmpI before
  constructor
  · intro h; repeat' split at h
    all_goals omega
  · intro h; repeat' split
    all_goals omega
theorem ordE_zero (a b : Evt) : ordE a b = 0 ↔ a.f0 = b.f0 ∧ a.f3 = b.f3 ∧ a.f2 = b.f2 := by
  unfold ordE cmpI
  constructor
  · intro h; repeat' split at h
    all_goals omega
  · intro h; repeat' split
    all_goals omega

/-- The events behind p stand in order and in range. -/
def scB : Option Evt → List Evt → Bool
  | _, [] => true
  | none, e :: l => decide (okE e) && scB (some e) l
  | some q, e :: l => decide (okE e) && (decide (before q e) && scB (some e) l)
/-- A valid score. -/
def isScoreB (l : List Evt) : Bool := scB none l && decide (l.length ≤ 40)
theorem scB_some (q : Evt) (l : List Evt) : scB (some q) l = true ↔ (∀ x ∈ l, okE x) ∧ l.Pairwise before ∧ ∀ x ∈ l, before q x := by
  induction l generalizing q with
  | nil => simp [scB]
  | cons e l ih =>
    simp only [scB, Bool.and_eq_true, decide_eq_true_eq, ih e, List.mem_cons, forall_eq_or_imp, List.pairwise_cons]
    constructor
    · rintro ⟨h1, h2, h3, h4, h5⟩
      exact ⟨⟨h1, h3⟩, ⟨h5, h4⟩, h2, fun x hx => before_trans h2 (h5 x hx)⟩
    · rintro ⟨⟨h1, h3⟩, ⟨h5, h4⟩, h2, h6⟩
      exact ⟨h1, h2, h3, h4, h5⟩
theorem scB_none (l : List Evt) : scB none l = true ↔ (∀ x ∈ l, okE x) ∧ l.Pairwise before := by
  cases l with
  | nil => simp [scB]
  | cons e l =>
    simp only [scB, Bool.and_eq_true, decide_eq_true_eq, scB_some, List.mem_cons, forall_eq_or_imp, List.pairwise_cons]
    constructor
    · rintro ⟨h1, h3, h4, h5⟩
      exact ⟨⟨h1, h3⟩, h5, h4⟩
    · rintro ⟨⟨h1, h3⟩, h5, h4⟩
      exact ⟨h1, h3, h4, h5⟩
theorem isScoreB_iff (l : List Evt) : isScoreB l = true ↔ (∀ x ∈ l, okE x) ∧ l.Pairwise before ∧ l.length ≤ 40 := by
  unfold isScoreB
  rw [Bool.and_eq_true, scB_none, decide_eq_true_eq, and_assoc]
def prevAt (l : List Evt) (n : Nat) : Option Evt := if n = 0 then none else l[n - 1]?
theorem prevAt_next (l : List Evt) (n : Nat) (h : n < l.length) : prevAt l (n + 1) = some l[n] := by simp [prevAt, h]
theorem prevAt_pos (l : List Evt) (n : Nat) (h0 : n ≠ 0) (h : n - 1 < l.length) : prevAt l n = some l[n - 1] := by simp [prevAt, h0, h]
theorem spec_IsScore.loop (l : List Evt) (hm : l.length ≤ 9223372036854775807) : ∀ (d k n : Nat), l.length - n ≤ d → d < k → spec_IsScore.l0 k l (n : Int) = some (scB (prevAt l n) (l.drop n) && decide (l.length ≤ 40)) := by
  intro d
  induction d with
  | zero =>
    intro k n hd hk
    obtain ⟨k, rfl⟩ : ∃ m, k = m + 1 := ⟨k - 1, by omega⟩
    simp only [spec_IsScore.l0]
    rw [if_neg (by omega), List.drop_of_length_le (by omega)]
    have e : ((l.length : Int) ≤ 40) ↔ l.length ≤ 40 := by omega
    simp [scB, e]
  | succ d ih =>
    intro k n hd hk
    obtain ⟨k, rfl⟩ : ∃ m, k = m + 1 := ⟨k - 1, by omega⟩
    by_cases h : n < l.length
    · simp only [spec_IsScore.l0]
      rw [if_pos (by omega), if_pos (by omega), rdT37 l n h, spec_l8Ok.ok, w1 h hm, List.drop_eq_getElem_cons h]
      simp only [Option.bind_some]
      have ih' := ih k (n + 1) (by omega) (by omega)
      rw [prevAt_next l n h] at ih'
      by_cases c1 : okE l[n]
      · by_cases c2 : n = 0
        · subst c2
          rw [if_pos (by simpa using c1), if_neg (by omega), ih']
          simp [prevAt, scB, c1]
        · have e : wrap64 ((n : Int) - 1) = ((n - 1 : Nat) : Int) := by unfold wrap64; omega
          rw [if_pos (by simpa using c1), if_pos (by omega), e, if_pos (by omega), if_pos (by omega), rdT37 l (n - 1) (by omega), spec_l8Before.ok]
          simp only [Option.bind_some]
          rw [ih', prevAt_pos l n c2 (by omega)]
          by_cases c3 : before l[n - 1] l[n]
          · simp [scB, c1, c3]
          · simp [scB, c3]
      · rw [if_neg (by simpa using c1)]
        cases prevAt l n <;> simp [scB, c1]
    · simp only [spec_IsScore.l0]
      rw [if_neg (by omega), List.drop_of_length_le (by omega)]
      have e : ((l.length : Int) ≤ 40) ↔ l.length ≤ 40 := by omega
      simp [scB, e]
theorem spec_IsScore.ok (l : List Evt) (hm : l.length ≤ 9223372036854775807) (k : Nat) (hk : l.length < k) : spec_IsScore.f k l = some (isScoreB l) := by
  unfold spec_IsScore.f
  exact spec_IsScore.loop l hm l.length k 0 (by omega) hk
theorem impl_IsScore.loop (l : List Evt) (hm : l.length ≤ 9223372036854775807) : ∀ (d k n : Nat), l.length - n ≤ d → d + 4 < k → impl_IsScore.l0 k l l l.length (n : Int) = some (scB (prevAt l n) (l.drop n) && decide (l.length ≤ 40)) := by
  intro d
  induction d with
  | zero =>
    intro k n hd hk
    obtain ⟨k, rfl⟩ : ∃ m, k = m + 1 := ⟨k - 1, by omega⟩
    simp only [impl_IsScore.l0]
    rw [if_neg (by omega), List.drop_of_length_le (by omega)]
    have e : ((l.length : Int) ≤ 40) ↔ l.length ≤ 40 := by omega
    simp [scB, e]
  | succ d ih =>
    intro k n hd hk
    obtain ⟨k, rfl⟩ : ∃ m, k = m + 1 := ⟨k - 1, by omega⟩
    by_cases h : n < l.length
    · simp only [impl_IsScore.l0, impl_InRange.ok]
      rw [if_pos (by omega), if_pos (by omega), if_pos (by omega), rdT37 l n h, w1 h hm, List.drop_eq_getElem_cons h]
      simp only [Option.bind_some]
      have ih' := ih k (n + 1) (by omega) (by omega)
      rw [prevAt_next l n h] at ih'
      by_cases c1 : okE l[n]
      · obtain ⟨o1, o2, o3, o4⟩ := id c1
        rw [if_pos (by simpa using o1), if_pos (by simpa using o2), if_pos (by simpa using o3), if_pos (by simpa using o4)]
        by_cases c2 : n = 0
        · subst c2
          rw [if_neg (by omega), ih']
          simp [prevAt, scB, c1]
        · have e : wrap64 ((n : Int) - 1) = ((n - 1 : Nat) : Int) := by unfold wrap64; omega
          rw [if_pos (by omega), e, if_pos (by omega), if_pos (by omega), rdT37 l (n - 1) (by omega), impl_eventOrder.ok _ _ k (by omega)]
          simp only [Option.bind_some]
          rw [ih', prevAt_pos l n c2 (by omega)]
          by_cases c3 : before l[n - 1] l[n]
          · have := (ordE_lt l[n - 1] l[n]).2 c3
            rw [if_neg (by omega)]
            simp [scB, c1, c3]
          · have := mt (ordE_lt l[n - 1] l[n]).1 c3
            rw [if_pos (by omega)]
            simp [scB, c3]
      · have c1' := c1
        unfold okE at c1
        have R : scB (prevAt l n) (l[n] :: l.drop (n + 1)) = false := by cases prevAt l n <;> simp [scB, c1']
        rw [R, Bool.false_and]
        by_cases h1 : 0 ≤ l[n].f0 ∧ l[n].f0 ≤ 2000
        · by_cases h2 : 1 ≤ l[n].f1 ∧ l[n].f1 ≤ 96
          · by_cases h3 : 21 ≤ l[n].f2 ∧ l[n].f2 ≤ 108
            · by_cases h4 : 1 ≤ l[n].f3 ∧ l[n].f3 ≤ 4
              · exact absurd ⟨h1, h2, h3, h4⟩ c1
              · rw [if_pos (by simpa using h1), if_pos (by simpa using h2), if_pos (by simpa using h3), if_neg (by simpa using h4)]
            · rw [if_pos (by simpa using h1), if_pos (by simpa using h2), if_neg (by simpa using h3)]
          · rw [if_pos (by simpa using h1), if_neg (by simpa using h2)]
        · rw [if_neg (by simpa using h1)]
    · simp only [impl_IsScore.l0]
      rw [if_neg (by omega), List.drop_of_length_le (by omega)]
      have e : ((l.length : Int) ≤ 40) ↔ l.length ≤ 40 := by omega
      simp [scB, e]
theorem impl_IsScore.ok (l : List Evt) (hm : l.length ≤ 9223372036854775807) (k : Nat) (hk : l.length + 4 < k) : impl_IsScore.f k l = some (isScoreB l) := by
  unfold impl_IsScore.f
  exact impl_IsScore.loop l hm l.length k 0 (by omega) hk
end Go.Proofs.Ytmacgllblbeegaa.F
