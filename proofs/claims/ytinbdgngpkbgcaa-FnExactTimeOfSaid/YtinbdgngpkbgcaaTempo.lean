/- Tempo maps: what the test of a tempo map comes to. -/
import Derived.Test.YtinbdgngpkbgcaaInts
import Derived.Test.YtinbdgngpkbgcaaF3
import Derived.Test.YtinbdgngpkbgcaaF8
namespace Go.Proofs.Ytinbdgngpkbgcaa.F
open Go.RowKit Go.Proofs.Ytinbdgngpkbgcaa.Opened Go.Proofs.YtinbdgngpkbgcaaW.PrintWords Go.Proofs.YtinbdgngpkbgcaaW.PrintLast Go.Proofs.YtinbdgngpkbgcaaW.PrintMore
set_option linter.unusedVariables false
set_option linter.unusedSimpArgs false

abbrev Tmp := S74
/-- The mark e behind the mark p. -/
def okT : Option Tmp → Tmp → Prop
  | none, e => (20 ≤ e.f1 ∧ e.f1 ≤ 300) ∧ (0 ≤ e.f0 ∧ e.f0 ≤ 2000) ∧ e.f0 = 0
  | some q, e => (20 ≤ e.f1 ∧ e.f1 ≤ 300) ∧ (0 ≤ e.f0 ∧ e.f0 ≤ 2000) ∧ q.f0 < e.f0
instance (p : Option Tmp) (e : Tmp) : Decidable (okT p e) := by cases p <;> (unfold okT; infer_instance)
def tpB : Option Tmp → List Tmp → Bool
  | _, [] => true
  | p, e :: l => decide (okT p e) && tpB (some e) l
/-- A valid tempo map. -/
def isTempoB (l : List Tmp) : Bool := tpB none l && decide (1 ≤ (l.length : Int) ∧ (l.length : Int) ≤ 8)
def prevT (l : List Tmp) (n : Nat) : Option Tmp := if n = 0 then none else l[n - 1]?
theorem prevT_next (l : List Tmp) (n : Nat) (h : n < l.length) : prevT l (n + 1) = some l[n] := by simp [prevT, h]
theorem prevT_pos (l : List Tmp) (n : Nat) (h0 : n ≠ 0) (h : n - 1 < l.length) : prevT l n = some l[n - 1] := by simp [prevT, h0, h]
theorem spec_IsTempo.loop (l : List Tmp) (hm : l.length ≤ 9223372036854775807) : ∀ (d k n : Nat), l.length - n ≤ d → d < k → spec_IsTempo.l0 k l (n : Int) = some (tpB (prevT l n) (l.drop n) && decide (1 ≤ (l.length : Int) ∧ (l.length : Int) ≤ 8)) := by
  intro d
  induction d with
  | zero =>
    intro k n hd hk
    obtain ⟨k, rfl⟩ : ∃ m, k = m + 1 := ⟨k - 1, by omega⟩
    simp only [spec_IsTempo.l0, spec_l1In.ok, Option.bind_some]
    rw [if_neg (by omega), List.drop_of_length_le (by omega)]
    simp [tpB]
  | succ d ih =>
    intro k n hd hk
    obtain ⟨k, rfl⟩ : ∃ m, k = m + 1 := ⟨k - 1, by omega⟩
    by_cases h : n < l.length
    · simp only [spec_IsTempo.l0, spec_l1In.ok, Option.bind_some]
      rw [if_pos (by omega), if_pos (by omega), rdT74 l n h, w1 h hm, List.drop_eq_getElem_cons h]
      have ih' := ih k (n + 1) (by omega) (by omega)
      rw [prevT_next l n h] at ih'
      by_cases c1 : 20 ≤ l[n].f1 ∧ l[n].f1 ≤ 300
      · by_cases c2 : 0 ≤ l[n].f0 ∧ l[n].f0 ≤ 2000
        · rw [if_pos (by simpa using c1), if_pos (by simpa using c2)]
          by_cases c3 : n = 0
          · subst c3
            by_cases c4 : l[0].f0 = 0
            · rw [if_pos (by omega), if_pos c4, if_neg (by omega), ih']
              simp [prevT, tpB, okT, c1, c4]
            · rw [if_pos (by omega), if_neg c4]
              simp [prevT, tpB, okT, c4]
          · have e : wrap64 ((n : Int) - 1) = ((n - 1 : Nat) : Int) := by unfold wrap64; omega
            rw [if_neg (by omega), if_pos (by omega), e, if_pos (by omega), if_pos (by omega), rdT74 l (n - 1) (by omega), prevT_pos l n c3 (by omega), ih']
            by_cases c4 : l[n - 1].f0 ≥ l[n].f0
            · rw [if_pos c4]
              have : ¬ l[n - 1].f0 < l[n].f0 := by omega
              simp [tpB, okT, this]
            · rw [if_neg c4]
              have : l[n - 1].f0 < l[n].f0 := by omega
              simp [tpB, okT, c1, c2, this]
        · rw [if_pos (by simpa using c1), if_neg (by simpa using c2)]
          cases prevT l n <;> simp [tpB, okT, c2]
      · rw [if_neg (by simpa using c1)]
        cases prevT l n <;> simp [tpB, okT, c1]
    · simp only [spec_IsTempo.l0, spec_l1In.ok, Option.bind_some]
      rw [if_neg (by omega), List.drop_of_length_le (by omega)]
      simp [tpB]
theorem spec_IsTempo.ok (l : List Tmp) (hm : l.length ≤ 9223372036854775807) (k : Nat) (hk : l.length < k) : spec_IsTempo.f k l = some (isTempoB l) := by
  unfold spec_IsTempo.f
  exact spec_IsTempo.loop l hm l.length k 0 (by omega) hk
theorem impl_IsTempo.loop (l : List Tmp) (hm : l.length ≤ 9223372036854775807) : ∀ (d k n : Nat), l.length - n ≤ d → d < k → (∀ q, prevT l n = some q → 0 ≤ q.f0) → impl_IsTempo.l0 k l l l.length (n : Int) = some (tpB (prevT l n) (l.drop n) && decide (1 ≤ (l.length : Int) ∧ (l.length : Int) ≤ 8)) := by
  intro d
  induction d with
  | zero =>
    intro k n hd hk hp
    obtain ⟨k, rfl⟩ : ∃ m, k = m + 1 := ⟨k - 1, by omega⟩
    simp only [impl_IsTempo.l0, impl_InRange.ok, Option.bind_some]
    rw [if_neg (by omega), List.drop_of_length_le (by omega)]
    simp [tpB]
  | succ d ih =>
    intro k n hd hk hp
    obtain ⟨k, rfl⟩ : ∃ m, k = m + 1 := ⟨k - 1, by omega⟩
    by_cases h : n < l.length
    · simp only [impl_IsTempo.l0, impl_InRange.ok, Option.bind_some]
      rw [if_pos (by omega), if_pos (by omega), if_pos (by omega), rdT74 l n h, w1 h hm, List.drop_eq_getElem_cons h]
      have ih' := ih k (n + 1) (by omega) (by omega)
      rw [prevT_next l n h] at ih'
      by_cases c3 : n = 0
      · subst c3
        rw [if_pos (by omega)]
        by_cases c4 : l[0].f0 = 0
        · rw [if_pos c4, if_neg (by omega), if_neg (by omega)]
          by_cases c1 : (20 : Int) ≤ l[0].f1 ∧ l[0].f1 ≤ (300 : Int)
          · rw [if_pos (by simpa using c1), ih' (fun q hq => by obtain rfl := Option.some.inj hq; omega)]
            simp [prevT, tpB, okT, c1, c4]
          · rw [if_neg (by simpa using c1)]
            simp [prevT, tpB, okT, c1]
        · rw [if_neg c4]
          simp [prevT, tpB, okT, c4]
      · have e : wrap64 ((n : Int) - 1) = ((n - 1 : Nat) : Int) := by unfold wrap64; omega
        rw [if_neg (by omega), if_pos (by omega), e, if_pos (by omega), if_pos (by omega), rdT74 l (n - 1) (by omega), prevT_pos l n c3 (by omega)]
        have hq := hp _ (prevT_pos l n c3 (by omega))
        by_cases c4 : l[n - 1].f0 ≥ l[n].f0
        · rw [if_pos c4]
          have : ¬ l[n - 1].f0 < l[n].f0 := by omega
          simp [tpB, okT, this]
        · have c5 : l[n - 1].f0 < l[n].f0 := by omega
          rw [if_neg c4]
          by_cases c6 : l[n].f0 > 2000
          · rw [if_pos c6]
            have : ¬ (0 ≤ l[n].f0 ∧ l[n].f0 ≤ 2000) := by omega
            simp [tpB, okT, this]
          · rw [if_neg c6]
            by_cases c1 : 20 ≤ l[n].f1 ∧ l[n].f1 ≤ 300
            · rw [if_pos (by simpa using c1), ih' (fun q hq' => by obtain rfl := Option.some.inj hq'; omega)]
              have c2 : 0 ≤ l[n].f0 ∧ l[n].f0 ≤ 2000 := by omega
              simp [tpB, okT, c1, c2, c5]
            · rw [if_neg (by simpa using c1)]
              simp [tpB, okT, c1]
    · simp only [impl_IsTempo.l0, impl_InRange.ok, Option.bind_some]
      rw [if_neg (by omega), List.drop_of_length_le (by omega)]
      simp [tpB]
theorem impl_IsTempo.ok (l : List Tmp) (hm : l.length ≤ 9223372036854775807) (k : Nat) (hk : l.length < k) : impl_IsTempo.f k l = some (isTempoB l) := by
  unfold impl_IsTempo.f
  exact impl_IsTempo.loop l hm l.length k 0 (by omega) hk (fun q hq => by simp [prevT] at hq)
end Go.Proofs.Ytinbdgngpkbgcaa.F
