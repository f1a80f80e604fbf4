/- Tied pieces, joined. -/
import Derived.Test.YtinbdgngpkbgcaaInts
import Derived.Test.YtinbdgngpkbgcaaF87
import Derived.Test.YtinbdgngpkbgcaaF90
namespace Go.Proofs.Ytinbdgngpkbgcaa.F
open Go.RowKit Go.Proofs.Ytinbdgngpkbgcaa.Opened Go.Proofs.YtinbdgngpkbgcaaW.PrintWords Go.Proofs.YtinbdgngpkbgcaaW.PrintLast Go.Proofs.YtinbdgngpkbgcaaW.PrintMore
set_option linter.unusedVariables false
set_option linter.unusedSimpArgs false
abbrev Pce := S97
def okJ : Option Pce → Pce → Bool → Prop
  | none, e, more => ((1 : Int) ≤ e.f1 ∧ e.f1 ≤ 96) ∧ ((0 : Int) ≤ e.f0 ∧ e.f0 ≤ 3000) ∧ e.f2 = more
  | some q, e, more => ((1 : Int) ≤ e.f1 ∧ e.f1 ≤ 96) ∧ ((0 : Int) ≤ e.f0 ∧ e.f0 ≤ 3000) ∧ e.f0 = wrap64 (q.f0 + q.f1) ∧ e.f2 = more
instance (p : Option Pce) (e : Pce) (m : Bool) : Decidable (okJ p e m) := by cases p <;> (unfold okJ; infer_instance)
def jnB : Option Pce → List Pce → Bool
  | _, [] => true
  | p, e :: l => decide (okJ p e (!l.isEmpty)) && jnB (some e) l
def longs (n : Int) (l : List Pce) : Int := l.foldl (fun a e => wrap64 (a + e.f1)) n
/-- Where the pieces begin, how long they are together, and whether they are pieces. -/
def joinP (l : List Pce) : Int × Int × Bool := if ((1 : Int) ≤ l.length ∧ (l.length : Int) ≤ 200) ∧ jnB none l = true then ((l.getD 0 ⟨0, 0, false⟩).f0, longs 0 l, true) else (0, 0, false)
def prevJ (l : List Pce) (n : Nat) : Option Pce := if n = 0 then none else l[n - 1]?
theorem prevJ_next (l : List Pce) (n : Nat) (h : n < l.length) : prevJ l (n + 1) = some l[n] := by simp [prevJ, h]
theorem prevJ_pos (l : List Pce) (n : Nat) (h0 : n ≠ 0) (h : n - 1 < l.length) : prevJ l n = some l[n - 1] := by simp [prevJ, h0, h]
theorem more_eq (l : List Pce) (n : Nat) (h : n < l.length) : (!(l.drop (n + 1)).isEmpty) = decide (n + 1 < l.length) := by
  by_cases c : n + 1 < l.length
  · rw [List.drop_eq_getElem_cons c]
    simp [c]
  · rw [List.drop_of_length_le (by omega)]
    simp [c]
theorem spec_JoinPieces.loop (l : List Pce) (hl : (1 : Int) ≤ l.length ∧ (l.length : Int) ≤ 200) : ∀ (d k n : Nat) (acc : Int), l.length - n ≤ d → d < k → spec_JoinPieces.l0 k l acc (n : Int) = some (if jnB (prevJ l n) (l.drop n) = true then ((l.getD 0 ⟨0, 0, false⟩).f0, longs acc (l.drop n), true) else (0, 0, false)) := by
  have hfirst : rd_T97 l 0 = l.getD 0 ⟨0, 0, false⟩ := rfl
  intro d
  induction d with
  | zero =>
    intro k n acc hd hk
    obtain ⟨k, rfl⟩ : ∃ m, k = m + 1 := ⟨k - 1, by omega⟩
    simp only [spec_JoinPieces.l0]
    rw [if_neg (by omega), if_pos (by omega), List.drop_of_length_le (by omega), hfirst]
    simp [jnB, longs]
  | succ d ih =>
    intro k n acc hd hk
    obtain ⟨k, rfl⟩ : ∃ m, k = m + 1 := ⟨k - 1, by omega⟩
    by_cases h : n < l.length
    · have hm := more_eq l n h
      simp only [spec_JoinPieces.l0, spec_l1In.ok, Option.bind_some]
      rw [if_pos (by omega), if_pos (by omega), rdT97 l n h, w1 h (by omega), List.drop_eq_getElem_cons h]
      have ih' := ih k (n + 1) (wrap64 (acc + l[n].f1)) (by omega) (by omega)
      rw [prevJ_next l n h] at ih'
      have hmm : decide (((n + 1 : Nat) : Int) < (l.length : Int)) = decide (n + 1 < l.length) := by simp only [decide_eq_decide]; omega
      have hL : longs acc (l[n] :: l.drop (n + 1)) = longs (wrap64 (acc + l[n].f1)) (l.drop (n + 1)) := rfl
      rw [hL]
      by_cases c1 : (1 : Int) ≤ l[n].f1 ∧ l[n].f1 ≤ 96
      · rw [if_pos (by simpa using c1)]
        by_cases c2 : (0 : Int) ≤ l[n].f0 ∧ l[n].f0 ≤ 3000
        · rw [if_pos (by simpa using c2), hmm, ← hm]
          by_cases c3 : n = 0
          · subst c3
            rw [if_neg (by omega)]
            by_cases c4 : l[0].f2 = !(l.drop (0 + 1)).isEmpty
            · have : (l[0].f2 != !(l.drop (0 + 1)).isEmpty) = false := by rw [c4]; simp
              rw [this, if_neg (by simp), ih']
              have ok : okJ none l[0] (!(l.drop (0 + 1)).isEmpty) := ⟨c1, c2, c4⟩
              simp only [prevJ, if_true, jnB, ok, decide_true, Bool.true_and]
            · have : (l[0].f2 != !(l.drop (0 + 1)).isEmpty) = true := by simpa [bne_iff_ne] using c4
              rw [this, if_pos rfl]
              have ok : ¬ okJ none l[0] (!(l.drop (0 + 1)).isEmpty) := fun h => c4 h.2.2
              simp only [prevJ, if_true, jnB, ok, decide_false, Bool.false_and, Bool.false_eq_true, if_false]
          · have e : wrap64 ((n : Int) - 1) = ((n - 1 : Nat) : Int) := by unfold wrap64; omega
            rw [if_pos (by omega), e, if_pos (by omega), if_pos (by omega), rdT97 l (n - 1) (by omega), prevJ_pos l n c3 (by omega)]
            by_cases c5 : l[n].f0 = wrap64 (l[n - 1].f0 + l[n - 1].f1)
            · rw [if_pos c5]
              by_cases c4 : l[n].f2 = !(l.drop (n + 1)).isEmpty
              · have : (l[n].f2 != !(l.drop (n + 1)).isEmpty) = false := by rw [c4]; simp
                rw [this, if_neg (by simp), ih']
                have ok : okJ (some l[n - 1]) l[n] (!(l.drop (n + 1)).isEmpty) := ⟨c1, c2, c5, c4⟩
                simp only [jnB, ok, decide_true, Bool.true_and]
              · have : (l[n].f2 != !(l.drop (n + 1)).isEmpty) = true := by simpa [bne_iff_ne] using c4
                rw [this, if_pos rfl]
                have ok : ¬ okJ (some l[n - 1]) l[n] (!(l.drop (n + 1)).isEmpty) := fun h => c4 h.2.2.2
                simp only [jnB, ok, decide_false, Bool.false_and, Bool.false_eq_true, if_false]
            · rw [if_neg c5]
              have ok : ¬ okJ (some l[n - 1]) l[n] (!(l.drop (n + 1)).isEmpty) := fun h => c5 h.2.2.1
              simp only [jnB, ok, decide_false, Bool.false_and, Bool.false_eq_true, if_false]
        · rw [if_neg (by simpa using c2)]
          have ok : ∀ p, ¬ okJ p l[n] (!(l.drop (n + 1)).isEmpty) := fun p h => by cases p <;> exact c2 h.2.1
          simp only [jnB, ok, decide_false, Bool.false_and, Bool.false_eq_true, if_false]
      · rw [if_neg (by simpa using c1)]
        have ok : ∀ p, ¬ okJ p l[n] (!(l.drop (n + 1)).isEmpty) := fun p h => by cases p <;> exact c1 h.1
        simp only [jnB, ok, decide_false, Bool.false_and, Bool.false_eq_true, if_false]
    · simp only [spec_JoinPieces.l0]
      rw [if_neg (by omega), if_pos (by omega), List.drop_of_length_le (by omega), hfirst]
      simp [jnB, longs]
theorem spec_JoinPieces.ok (l : List Pce) (k : Nat) (hk : l.length < k) : spec_JoinPieces.f k l = some (joinP l) := by
  unfold spec_JoinPieces.f joinP
  rw [spec_l1In.ok]
  simp only [Option.bind_some]
  by_cases h : (1 : Int) ≤ l.length ∧ (l.length : Int) ≤ 200
  · have := spec_JoinPieces.loop l h l.length k 0 0 (by omega) hk
    rw [List.drop_zero] at this
    have hp : prevJ l 0 = none := rfl
    rw [hp] at this
    rw [if_pos (by simpa using h)]
    simp only [h, and_self, true_and]
    exact this
  · rw [if_neg (by simpa using h), if_neg (fun h' => h h'.1)]
theorem impl_JoinPieces.loop (l : List Pce) (hl : (1 : Int) ≤ l.length ∧ (l.length : Int) ≤ 200) : ∀ (d k n : Nat) (acc : Int), l.length - n ≤ d → d < k → impl_JoinPieces.l0 k l acc l l.length (n : Int) = some (if jnB (prevJ l n) (l.drop n) = true then ((l.getD 0 ⟨0, 0, false⟩).f0, longs acc (l.drop n), true) else (0, 0, false)) := by
  have hfirst : rd_T97 l 0 = l.getD 0 ⟨0, 0, false⟩ := rfl
  intro d
  induction d with
  | zero =>
    intro k n acc hd hk
    obtain ⟨k, rfl⟩ : ∃ m, k = m + 1 := ⟨k - 1, by omega⟩
    simp only [impl_JoinPieces.l0]
    rw [if_neg (by omega), if_pos (by omega), List.drop_of_length_le (by omega), hfirst]
    simp [jnB, longs]
  | succ d ih =>
    intro k n acc hd hk
    obtain ⟨k, rfl⟩ : ∃ m, k = m + 1 := ⟨k - 1, by omega⟩
    by_cases h : n < l.length
    · have hm := more_eq l n h
      simp only [impl_JoinPieces.l0, impl_InRange.ok, Option.bind_some]
      rw [if_pos (by omega), if_pos (by omega), if_pos (by omega), rdT97 l n h, w1 h (by omega), List.drop_eq_getElem_cons h]
      have ih' := ih k (n + 1) (wrap64 (acc + l[n].f1)) (by omega) (by omega)
      rw [prevJ_next l n h] at ih'
      have hmm : decide ((n : Int) < wrap64 ((l.length : Int) - 1)) = decide (n + 1 < l.length) := by rw [wid (x := (l.length : Int) - 1) (by omega) (by omega)]; simp only [decide_eq_decide]; omega
      have hL : longs acc (l[n] :: l.drop (n + 1)) = longs (wrap64 (acc + l[n].f1)) (l.drop (n + 1)) := rfl
      rw [hL]
      by_cases c1 : (1 : Int) ≤ l[n].f1 ∧ l[n].f1 ≤ 96
      · rw [if_pos (by simpa using c1)]
        by_cases c2 : (0 : Int) ≤ l[n].f0 ∧ l[n].f0 ≤ 3000
        · rw [if_pos (by simpa using c2), hmm, ← hm]
          by_cases c3 : n = 0
          · subst c3
            rw [if_neg (by omega)]
            by_cases c4 : l[0].f2 = !(l.drop (0 + 1)).isEmpty
            · have : (l[0].f2 != !(l.drop (0 + 1)).isEmpty) = false := by rw [c4]; simp
              rw [this, if_neg (by simp), ih']
              have ok : okJ none l[0] (!(l.drop (0 + 1)).isEmpty) := ⟨c1, c2, c4⟩
              simp only [prevJ, if_true, jnB, ok, decide_true, Bool.true_and]
            · have : (l[0].f2 != !(l.drop (0 + 1)).isEmpty) = true := by simpa [bne_iff_ne] using c4
              rw [this, if_pos rfl]
              have ok : ¬ okJ none l[0] (!(l.drop (0 + 1)).isEmpty) := fun h => c4 h.2.2
              simp only [prevJ, if_true, jnB, ok, decide_false, Bool.false_and, Bool.false_eq_true, if_false]
          · have e : wrap64 ((n : Int) - 1) = ((n - 1 : Nat) : Int) := by unfold wrap64; omega
            rw [if_pos (by omega), e, if_pos (by omega), if_pos (by omega), rdT97 l (n - 1) (by omega), prevJ_pos l n c3 (by omega)]
            by_cases c5 : l[n].f0 = wrap64 (l[n - 1].f0 + l[n - 1].f1)
            · rw [if_pos c5]
              by_cases c4 : l[n].f2 = !(l.drop (n + 1)).isEmpty
              · have : (l[n].f2 != !(l.drop (n + 1)).isEmpty) = false := by rw [c4]; simp
                rw [this, if_neg (by simp), ih']
                have ok : okJ (some l[n - 1]) l[n] (!(l.drop (n + 1)).isEmpty) := ⟨c1, c2, c5, c4⟩
                simp only [jnB, ok, decide_true, Bool.true_and]
              · have : (l[n].f2 != !(l.drop (n + 1)).isEmpty) = true := by simpa [bne_iff_ne] using c4
                rw [this, if_pos rfl]
                have ok : ¬ okJ (some l[n - 1]) l[n] (!(l.drop (n + 1)).isEmpty) := fun h => c4 h.2.2.2
                simp only [jnB, ok, decide_false, Bool.false_and, Bool.false_eq_true, if_false]
            · rw [if_neg c5]
              have ok : ¬ okJ (some l[n - 1]) l[n] (!(l.drop (n + 1)).isEmpty) := fun h => c5 h.2.2.1
              simp only [jnB, ok, decide_false, Bool.false_and, Bool.false_eq_true, if_false]
        · rw [if_neg (by simpa using c2)]
          have ok : ∀ p, ¬ okJ p l[n] (!(l.drop (n + 1)).isEmpty) := fun p h => by cases p <;> exact c2 h.2.1
          simp only [jnB, ok, decide_false, Bool.false_and, Bool.false_eq_true, if_false]
      · rw [if_neg (by simpa using c1)]
        have ok : ∀ p, ¬ okJ p l[n] (!(l.drop (n + 1)).isEmpty) := fun p h => by cases p <;> exact c1 h.1
        simp only [jnB, ok, decide_false, Bool.false_and, Bool.false_eq_true, if_false]
    · simp only [impl_JoinPieces.l0]
      rw [if_neg (by omega), if_pos (by omega), List.drop_of_length_le (by omega), hfirst]
      simp [jnB, longs]
theorem impl_JoinPieces.ok (l : List Pce) (k : Nat) (hk : l.length < k) : impl_JoinPieces.f k l = some (joinP l) := by
  unfold impl_JoinPieces.f joinP
  rw [impl_InRange.ok]
  simp only [Option.bind_some]
  by_cases h : (1 : Int) ≤ l.length ∧ (l.length : Int) ≤ 200
  · have := impl_JoinPieces.loop l h l.length k 0 0 (by omega) hk
    rw [List.drop_zero] at this
    have hp : prevJ l 0 = none := rfl
    rw [hp] at this
    rw [if_pos (by simpa using h)]
    simp only [h, and_self, true_and]
    exact this
  · rw [if_neg (by simpa using h), if_neg (fun h' => h h'.1)]
end Go.Proofs.Ytinbdgngpkbgcaa.F
