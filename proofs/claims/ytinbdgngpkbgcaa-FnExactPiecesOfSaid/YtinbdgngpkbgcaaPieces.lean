/- An event, parted at the bars. -/
import Derived.Test.YtinbdgngpkbgcaaMeter
import Derived.Test.YtinbdgngpkbgcaaF74
import Derived.Test.YtinbdgngpkbgcaaF80
import Derived.Test.YtinbdgngpkbgcaaF19
namespace Go.Proofs.Ytinbdgngpkbgcaa.F
open Go.RowKit Go.Proofs.Ytinbdgngpkbgcaa.Opened Go.Proofs.YtinbdgngpkbgcaaW.PrintWords Go.Proofs.YtinbdgngpkbgcaaW.PrintLast Go.Proofs.YtinbdgngpkbgcaaW.PrintMore
set_option linter.unusedVariables false
set_option linter.unusedSimpArgs false
abbrev Pcs := S97
/-- Where the next bar begins, or the event's end, if that comes first. -/
def nextBar (bar stop a : Int) : Int := mn (a - a % bar + bar) stop
def pcs (bar stop : Int) : Nat → Int → List Pcs
  | 0, _ => []
  | d + 1, a => if a < stop then ⟨a, nextBar bar stop a - a, decide (nextBar bar stop a < stop)⟩ :: pcs bar stop d (nextBar bar stop a) else []
theorem pcs_length (bar stop : Int) (d : Nat) (a : Int) : (pcs bar stop d a).length ≤ d := by
  induction d generalizing a with
  | zero => simp [pcs]
  | succ d ih =>
    rw [pcs]
    split
    · have := ih (nextBar bar stop a)
      simp only [List.length_cons]
      omega
    · simp
theorem nextBar_gt {bar stop a : Int} (hb : (1 : Int) ≤ bar) (h0 : 0 ≤ a) (h : a < stop) : a < nextBar bar stop a ∧ nextBar bar stop a ≤ stop ∧ nextBar bar stop a ≤ a + bar := by
  have h1 := Int.emod_nonneg a (show bar ≠ 0 by omega)
  have h2 := Int.emod_lt_of_pos a (show 0 < bar by omega)
  unfold nextBar mn
  split <;> omega
theorem mn_comm (a b : Int) : mn a b = mn b a := by
  unfold mn
  repeat' split
  all_goals omega
theorem impl_PiecesOf.loop (bar stop : Int) (hb : (1 : Int) ≤ bar ∧ bar ≤ 1000) (hs : (0 : Int) ≤ stop ∧ stop ≤ 5000) : ∀ (d k : Nat) (acc : List Pcs) (a : Int), (0 : Int) ≤ a → (stop - a).toNat ≤ d → d < k → acc.length + d ≤ 1000000 → impl_PiecesOf.l0 k acc bar a stop = some (acc ++ pcs bar stop d a) := by
  intro d
  induction d with
  | zero =>
    intro k acc a h0 hd hk ha
    obtain ⟨k, rfl⟩ : ∃ m, k = m + 1 := ⟨k - 1, by omega⟩
    simp only [impl_PiecesOf.l0]
    rw [if_neg (by omega)]
    simp [pcs]
  | succ d ih =>
    intro k acc a h0 hd hk ha
    obtain ⟨k, rfl⟩ : ∃ m, k = m + 1 := ⟨k - 1, by omega⟩
    simp only [impl_PiecesOf.l0]
    by_cases h : a < stop
    · obtain ⟨g1, g2, g3⟩ := nextBar_gt hb.1 h0 h
      have h1 := Int.emod_nonneg a (show bar ≠ 0 by omega)
      have h2 := Int.emod_lt_of_pos a (show 0 < bar by omega)
      have e0 : Int.tmod a bar = a % bar := Int.tmod_eq_emod_of_nonneg h0
      have e1 : wrap64 (a - a % bar) = a - a % bar := wid (by omega) (by omega)
      have e2 : wrap64 (a - a % bar + bar) = a - a % bar + bar := wid (by omega) (by omega)
      have e3 : mn (a - a % bar + bar) stop = nextBar bar stop a := rfl
      have e4 : wrap64 (nextBar bar stop a - a) = nextBar bar stop a - a := wid (by omega) (by omega)
      rw [if_pos h, if_neg (by omega), if_pos (by omega), e0, e1, e2, e3, e4, ih k _ _ (by omega) (by omega) (by omega) (by simp; omega), pcs, if_pos h]
      simp only [List.append_assoc, List.singleton_append]
    · rw [if_neg h, pcs, if_neg h, List.append_nil]
/-- The pieces of an event in a meter. -/
def piecesOf (a b e0 e1 : Int) : List Pcs := if isMeter a b ∧ ((0 : Int) ≤ e0 ∧ e0 ≤ 2000) ∧ ((1 : Int) ≤ e1 ∧ e1 ≤ 96) then pcs (barOf a b) (e0 + e1) 96 e0 else []
theorem piecesOf_length (a b e0 e1 : Int) : (piecesOf a b e0 e1).length ≤ 96 := by
  unfold piecesOf
  split
  · exact pcs_length _ _ _ _
  · simp
theorem impl_PiecesOf.ok (a b e0 e1 e2 e3 : Int) (k : Nat) (hk : 200 < k) : impl_PiecesOf.f k a b e0 e1 e2 e3 = some (piecesOf a b e0 e1) := by
  obtain ⟨k, rfl⟩ : ∃ m, k = m + 1 := ⟨k - 1, by omega⟩
  unfold impl_PiecesOf.f piecesOf
  simp only [Option.bind_some, impl_IsMeter.ok, impl_InRange.ok, impl_PiecesOf.j0, impl_BarLong.ok]
  by_cases h1 : isMeter a b
  · by_cases h2 : (0 : Int) ≤ e0 ∧ e0 ≤ 2000
    · by_cases h3 : (1 : Int) ≤ e1 ∧ e1 ≤ 96
      · have hb := bar_bd h1
        have e : wrap64 (e0 + e1) = e0 + e1 := wid (by omega) (by omega)
        simp only [h1, h2, h3, and_self, decide_true, if_true, Bool.not_true, Bool.false_eq_true, if_false, e]
        have := impl_PiecesOf.loop (barOf a b) (e0 + e1) (by omega) (by omega) 96 k [] e0 h2.1 (by omega) (by omega) (by simp)
        simpa using this
      · simp [h1, h2, h3]
    · simp [h1, h2]
  · simp [h1]
theorem spec_PiecesOf.loop (a b e0 e1 e2 e3 : Int) (hm : isMeter a b) (he0 : (0 : Int) ≤ e0 ∧ e0 ≤ 2000) (he1 : (1 : Int) ≤ e1 ∧ e1 ≤ 96) : ∀ (d k : Nat) (acc : List Pcs) (x : Int), (0 : Int) ≤ x → (e0 + e1 - x).toNat ≤ d → d < k → acc.length + d ≤ 1000000 → spec_PiecesOf.l0 k acc x a b e0 e1 e2 e3 = some (acc ++ pcs (barOf a b) (e0 + e1) d x) := by
  have hb := bar_bd hm
  have e : wrap64 (e0 + e1) = e0 + e1 := wid (by omega) (by omega)
  intro d
  induction d with
  | zero =>
    intro k acc x h0 hd hk ha
    obtain ⟨k, rfl⟩ : ∃ m, k = m + 1 := ⟨k - 1, by omega⟩
    simp only [spec_PiecesOf.l0, e]
    rw [if_neg (by omega)]
    simp [pcs]
  | succ d ih =>
    intro k acc x h0 hd hk ha
    obtain ⟨k, rfl⟩ : ∃ m, k = m + 1 := ⟨k - 1, by omega⟩
    simp only [spec_PiecesOf.l0, e, spec_BarLong.ok, Option.bind_some]
    by_cases h : x < e0 + e1
    · obtain ⟨g1, g2, g3⟩ := nextBar_gt (bar := barOf a b) (by omega) h0 h
      have h1 := Int.emod_nonneg x (show barOf a b ≠ 0 by omega)
      have h2 := Int.emod_lt_of_pos x (show 0 < barOf a b by omega)
      have hq := Int.mul_ediv_add_emod x (barOf a b)
      have hqb : 0 ≤ x / barOf a b ∧ x / barOf a b ≤ x := ⟨Int.ediv_nonneg h0 (by omega), Int.ediv_le_self _ h0⟩
      have e5 : Int.tdiv x (barOf a b) = x / barOf a b := Int.tdiv_eq_ediv_of_nonneg h0
      have e5' : wrap64 (x / barOf a b) = x / barOf a b := wid (by omega) (by omega)
      have e6 : wrap64 (x / barOf a b + 1) = x / barOf a b + 1 := wid (by omega) (by omega)
      have e7 : (x / barOf a b + 1) * barOf a b = x - x % barOf a b + barOf a b := by rw [Int.add_mul, Int.one_mul, Int.mul_comm]; omega
      have e8 : wrap64 (x - x % barOf a b + barOf a b) = x - x % barOf a b + barOf a b := wid (by omega) (by omega)
      have e9 : mn (e0 + e1) (x - x % barOf a b + barOf a b) = nextBar (barOf a b) (e0 + e1) x := mn_comm _ _
      have e4 : wrap64 (nextBar (barOf a b) (e0 + e1) x - x) = nextBar (barOf a b) (e0 + e1) x - x := wid (by omega) (by omega)
      rw [if_pos h, if_neg (by omega), e5, e5', e6, e7, e8, spec_Min.ok, Option.bind_some, if_pos (by omega), e9, e4, ih k _ _ (by omega) (by omega) (by omega) (by simp; omega), pcs, if_pos h]
      simp only [List.append_assoc, List.singleton_append]
    · rw [if_neg h, pcs, if_neg h, List.append_nil]
theorem spec_PiecesOf.ok (a b e0 e1 e2 e3 : Int) (k : Nat) (hk : 200 < k) : spec_PiecesOf.f k a b e0 e1 e2 e3 = some (piecesOf a b e0 e1) := by
  obtain ⟨k, rfl⟩ : ∃ m, k = m + 1 := ⟨k - 1, by omega⟩
  unfold spec_PiecesOf.f piecesOf
  simp only [Option.bind_some, spec_IsMeter.ok, spec_l1In.ok, spec_PiecesOf.j0]
  by_cases h1 : isMeter a b
  · by_cases h2 : (0 : Int) ≤ e0 ∧ e0 ≤ 2000
    · by_cases h3 : (1 : Int) ≤ e1 ∧ e1 ≤ 96
      · have hb := bar_bd h1
        simp only [h1, h2, h3, and_self, decide_true, if_true, Bool.not_true, Bool.false_eq_true, if_false]
        have := spec_PiecesOf.loop a b e0 e1 e2 e3 h1 h2 h3 96 k [] e0 h2.1 (by omega) (by omega) (by simp)
        simpa using this
      · simp [h1, h2, h3]
    · simp [h1, h2]
  · simp [h1]
end Go.Proofs.Ytinbdgngpkbgcaa.F
