/- Marking a list of Event, and looking whether the marks stand. -/
import Derived.Test.YtmacgllblbeegaaBase
import Derived.Test.YtmacgllblbeegaaF27
import Derived.Test.YtmacgllblbeegaaF28
namespace Go.Proofs.Ytmacgllblbeegaa.F
open Go.RowKit Go.Proofs.Ytmacgllblbeegaa.Opened Go.Proofs.YtmacgllblbeegaaW.PrintWords Go.Proofs.YtmacgllblbeegaaW.PrintLast
set_option linter.unusedVariables false
set_option linter.unusedSimpArgs false

/-- m elements, numbered from c on. -/
def markedEvent : Nat → Int → List S37
  | 0, _ => []
  | m + 1, c => (⟨c, c + 1, c + 1 + 1, c + 1 + 1 + 1⟩ : S37) :: markedEvent m (c + 1 + 1 + 1 + 1)
theorem markedEvent_length (m : Nat) (c : Int) : (markedEvent m c).length = m := by
  induction m generalizing c with
  | zero => rfl
  | succ m ih => simp [markedEvent, ih]
theorem rdsetEvent (xs : List S37) (n : Nat) (v : S37) (h : n < xs.length) : rd_T37 (xs.set n v) (n : Int) = v := by
  rw [rdT37 _ n (by simpa using h)]
  simp
theorem laws_markEventS.loop : ∀ (d k : Nat) (x : List S37) (c : Int) (n : Nat), x.length ≤ 1048576 → n ≤ x.length → x.length - n = d → d < k → 0 ≤ c → c ≤ 1000000000000 - 4 * d → laws_markEventS.l0 k x c (n : Int) = some (c + 4 * d, x.take n ++ markedEvent d c) := by
  intro d
  induction d with
  | zero =>
    intro k x c n hm hn hd hk h0 h1
    obtain ⟨k, rfl⟩ : ∃ m, k = m + 1 := ⟨k - 1, by omega⟩
    simp only [laws_markEventS.l0]
    rw [if_neg (by omega), List.take_of_length_le (by omega)]
    simp [markedEvent]
  | succ d ih =>
    intro k x c n hm hn hd hk h0 h1
    obtain ⟨k, rfl⟩ : ∃ m, k = m + 1 := ⟨k - 1, by omega⟩
    have hlt : n < x.length := by omega
    have e1 : wrap64 (c + 1) = c + 1 := by unfold wrap64; omega
    have e2 : wrap64 (c + 1 + 1) = c + 1 + 1 := by unfold wrap64; omega
    have e3 : wrap64 (c + 1 + 1 + 1) = c + 1 + 1 + 1 := by unfold wrap64; omega
    have e4 : wrap64 (c + 1 + 1 + 1 + 1) = c + 1 + 1 + 1 + 1 := by unfold wrap64; omega
    simp only [laws_markEventS.l0, Option.bind_some, Int.toNat_natCast]
    rw [if_pos (by omega), if_pos (by omega), w1 hlt (by omega)]
    simp only [e1, e2, e3, e4, List.set_set, rdsetEvent x n _ hlt]
    rw [ih k _ _ (n + 1) (by rw [List.length_set]; omega) (by rw [List.length_set]; omega) (by rw [List.length_set]; omega) (by omega) (by omega) (by omega), set_take _ _ _ hlt]
    congr 1
    refine Prod.ext ?_ ?_
    · show _ = _
      omega
    · simp [markedEvent]
theorem laws_markEventS.ok (x : List S37) (c : Int) (hm : x.length ≤ 1048576) (h0 : 0 ≤ c) (h1 : c ≤ 1000000) (k : Nat) (hk : x.length < k) : laws_markEventS.f k x c = some (c + 4 * x.length, markedEvent x.length c) := by
  unfold laws_markEventS.f
  have h := laws_markEventS.loop x.length k x c 0 hm (by omega) (by omega) hk h0 (by omega)
  simpa using h
theorem laws_heldEventS.loop (x : List S37) (hm : x.length ≤ 1048576) : ∀ (d k : Nat) (c : Int) (n : Nat), n ≤ x.length → x.length - n = d → d < k → 0 ≤ c → c ≤ 1000000000000 - 4 * d → x.drop n = markedEvent d c → laws_heldEventS.l0 k x c (n : Int) = some (c + 4 * d) := by
  intro d
  induction d with
  | zero =>
    intro k c n hn hd hk h0 h1 hx
    obtain ⟨k, rfl⟩ : ∃ m, k = m + 1 := ⟨k - 1, by omega⟩
    simp only [laws_heldEventS.l0]
    rw [if_neg (by omega)]
    simp
  | succ d ih =>
    intro k c n hn hd hk h0 h1 hx
    obtain ⟨k, rfl⟩ : ∃ m, k = m + 1 := ⟨k - 1, by omega⟩
    have hlt : n < x.length := by omega
    have e1 : wrap64 (c + 1) = c + 1 := by unfold wrap64; omega
    have e2 : wrap64 (c + 1 + 1) = c + 1 + 1 := by unfold wrap64; omega
    have e3 : wrap64 (c + 1 + 1 + 1) = c + 1 + 1 + 1 := by unfold wrap64; omega
    have e4 : wrap64 (c + 1 + 1 + 1 + 1) = c + 1 + 1 + 1 + 1 := by unfold wrap64; omega
    rw [List.drop_eq_getElem_cons hlt] at hx
    simp only [markedEvent, List.cons.injEq] at hx
    obtain ⟨hx1, hx2⟩ := hx
    simp only [laws_heldEventS.l0]
    rw [if_pos (by omega), if_pos (by omega), w1 hlt (by omega), rdT37 x n hlt, hx1]
    simp only [e1, e2, e3, e4, if_true, bne_self_eq_false, Bool.false_eq_true, if_false]
    rw [ih k _ (n + 1) (by omega) (by omega) (by omega) (by omega) (by omega) hx2]
    congr 1
    omega
theorem laws_heldEventS.ok (m : Nat) (c : Int) (hm : m ≤ 1048576) (h0 : 0 ≤ c) (h1 : c ≤ 1000000) (k : Nat) (hk : m < k) : laws_heldEventS.f k (markedEvent m c) c = some (c + 4 * m) := by
  unfold laws_heldEventS.f
  have h := laws_heldEventS.loop (markedEvent m c) (by rw [markedEvent_length]; exact hm) m k c 0 (by omega) (by rw [markedEvent_length]; omega) hk h0 (by omega) (by simp)
  simpa using h

end Go.Proofs.Ytmacgllblbeegaa.F
