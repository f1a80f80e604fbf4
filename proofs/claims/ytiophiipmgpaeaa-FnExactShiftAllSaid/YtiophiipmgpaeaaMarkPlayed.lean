/- Marking a list of Played, and looking whether the marks stand. -/
import Derived.Test.YtiophiipmgpaeaaBase
import Derived.Test.YtiophiipmgpaeaaF25
import Derived.Test.YtiophiipmgpaeaaF35
namespace Go.Proofs.Ytiophiipmgpaeaa.F
open Go.RowKit Go.Proofs.Ytiophiipmgpaeaa.Opened Go.Proofs.YtiophiipmgpaeaaW.PrintWords Go.Proofs.YtiophiipmgpaeaaW.PrintLast
set_option linter.unusedVariables false
set_option linter.unusedSimpArgs false

/-- m elements, numbered from c on. -/
def markedPlayed : Nat → Int → List S109
  | 0, _ => []
  | m + 1, c => (⟨c, c + 1⟩ : S109) :: markedPlayed m (c + 1 + 1)
theorem markedPlayed_length (m : Nat) (c : Int) : (markedPlayed m c).length = m := by
  induction m generalizing c with
  | zero => rfl
  | succ m ih => simp [markedPlayed, ih]
theorem rdsetPlayed (xs : List S109) (n : Nat) (v : S109) (h : n < xs.length) : rd_T109 (xs.set n v) (n : Int) = v := by
  rw [rdT109 _ n (by simpa using h)]
  simp
theorem laws_markPlayedS.loop : ∀ (d k : Nat) (x : List S109) (c : Int) (n : Nat), x.length ≤ 1048576 → n ≤ x.length → x.length - n = d → d < k → 0 ≤ c → c ≤ 1000000000000 - 2 * d → laws_markPlayedS.l0 k x c (n : Int) = some (c + 2 * d, x.take n ++ markedPlayed d c) := by
  intro d
  induction d with
  | zero =>
    intro k x c n hm hn hd hk h0 h1
    obtain ⟨k, rfl⟩ : ∃ m, k = m + 1 := ⟨k - 1, by omega⟩
    simp only [laws_markPlayedS.l0]
    rw [if_neg (by omega), List.take_of_length_le (by omega)]
    simp [markedPlayed]
  | succ d ih =>
    intro k x c n hm hn hd hk h0 h1
    obtain ⟨k, rfl⟩ : ∃ m, k = m + 1 := ⟨k - 1, by omega⟩
    have hlt : n < x.length := by omega
    have e1 : wrap64 (c + 1) = c + 1 := by unfold wrap64; omega
    have e2 : wrap64 (c + 1 + 1) = c + 1 + 1 := by unfold wrap64; omega
    simp only [laws_markPlayedS.l0, Option.bind_some, Int.toNat_natCast]
    rw [if_pos (by omega), if_pos (by omega), w1 hlt (by omega)]
    simp only [e1, e2, List.set_set, rdsetPlayed x n _ hlt]
    rw [ih k _ _ (n + 1) (by rw [List.length_set]; omega) (by rw [List.length_set]; omega) (by rw [List.length_set]; omega) (by omega) (by omega) (by omega), set_take _ _ _ hlt]
    congr 1
    refine Prod.ext ?_ ?_
    · show _ = _
      omega
    · simp [markedPlayed]
theorem laws_markPlayedS.ok (x : List S109) (c : Int) (hm : x.length ≤ 1048576) (h0 : 0 ≤ c) (h1 : c ≤ 1000000) (k : Nat) (hk : x.length < k) : laws_markPlayedS.f k x c = some (c + 2 * x.length, markedPlayed x.length c) := by
  unfold laws_markPlayedS.f
  have h := laws_markPlayedS.loop x.length k x c 0 hm (by omega) (by omega) hk h0 (by omega)
  simpa using h
theorem laws_heldPlayedS.loop (x : List S109) (hm : x.length ≤ 1048576) : ∀ (d k : Nat) (c : Int) (n : Nat), n ≤ x.length → x.length - n = d → d < k → 0 ≤ c → c ≤ 1000000000000 - 2 * d → x.drop n = markedPlayed d c → laws_heldPlayedS.l0 k x c (n : Int) = some (c + 2 * d) := by
  intro d
  induction d with
  | zero =>
    intro k c n hn hd hk h0 h1 hx
    obtain ⟨k, rfl⟩ : ∃ m, k = m + 1 := ⟨k - 1, by omega⟩
    simp only [laws_heldPlayedS.l0]
    rw [if_neg (by omega)]
    simp
  | succ d ih =>
    intro k c n hn hd hk h0 h1 hx
    obtain ⟨k, rfl⟩ : ∃ m, k = m + 1 := ⟨k - 1, by omega⟩
    have hlt : n < x.length := by omega
    have e1 : wrap64 (c + 1) = c + 1 := by unfold wrap64; omega
    have e2 : wrap64 (c + 1 + 1) = c + 1 + 1 := by unfold wrap64; omega
    rw [List.drop_eq_getElem_cons hlt] at hx
    simp only [markedPlayed, List.cons.injEq] at hx
    obtain ⟨hx1, hx2⟩ := hx
    simp only [laws_heldPlayedS.l0]
    rw [if_pos (by omega), if_pos (by omega), w1 hlt (by omega), rdT109 x n hlt, hx1]
    simp only [e1, e2, if_true, bne_self_eq_false, Bool.false_eq_true, if_false]
    rw [ih k _ (n + 1) (by omega) (by omega) (by omega) (by omega) (by omega) hx2]
    congr 1
    omega
theorem laws_heldPlayedS.ok (m : Nat) (c : Int) (hm : m ≤ 1048576) (h0 : 0 ≤ c) (h1 : c ≤ 1000000) (k : Nat) (hk : m < k) : laws_heldPlayedS.f k (markedPlayed m c) c = some (c + 2 * m) := by
  unfold laws_heldPlayedS.f
  have h := laws_heldPlayedS.loop (markedPlayed m c) (by rw [markedPlayed_length]; exact hm) m k c 0 (by omega) (by rw [markedPlayed_length]; omega) hk h0 (by omega) (by simp)
  simpa using h

end Go.Proofs.Ytiophiipmgpaeaa.F
