/- Marking a list of Sign, and looking whether the marks stand. -/
import Derived.Test.YtiophiipmgpaeaaBase
import Derived.Test.YtiophiipmgpaeaaF48
import Derived.Test.YtiophiipmgpaeaaF70
namespace Go.Proofs.Ytiophiipmgpaeaa.F
open Go.RowKit Go.Proofs.Ytiophiipmgpaeaa.Opened Go.Proofs.YtiophiipmgpaeaaW.PrintWords Go.Proofs.YtiophiipmgpaeaaW.PrintLast
set_option linter.unusedVariables false
set_option linter.unusedSimpArgs false

/-- m elements, numbered from c on. -/
def markedSign : Nat → Int → List S116
  | 0, _ => []
  | m + 1, c => (⟨c, c + 1, c + 1 + 1⟩ : S116) :: markedSign m (c + 1 + 1 + 1)
theorem markedSign_length (m : Nat) (c : Int) : (markedSign m c).length = m := by
  induction m generalizing c with
  | zero => rfl
  | succ m ih => simp [markedSign, ih]
theorem rdsetSign (xs : List S116) (n : Nat) (v : S116) (h : n < xs.length) : rd_T116 (xs.set n v) (n : Int) = v := by
  rw [rdT116 _ n (by simpa using h)]
  simp
theorem laws_markSignS.loop : ∀ (d k : Nat) (x : List S116) (c : Int) (n : Nat), x.length ≤ 1048576 → n ≤ x.length → x.length - n = d → d < k → 0 ≤ c → c ≤ 1000000000000 - 3 * d → laws_markSignS.l0 k x c (n : Int) = some (c + 3 * d, x.take n ++ markedSign d c) := by
  intro d
  induction d with
  | zero =>
    intro k x c n hm hn hd hk h0 h1
    obtain ⟨k, rfl⟩ : ∃ m, k = m + 1 := ⟨k - 1, by omega⟩
    simp only [laws_markSignS.l0]
    rw [if_neg (by omega), List.take_of_length_le (by omega)]
    simp [markedSign]
  | succ d ih =>
    intro k x c n hm hn hd hk h0 h1
    obtain ⟨k, rfl⟩ : ∃ m, k = m + 1 := ⟨k - 1, by omega⟩
    have hlt : n < x.length := by omega
    have e1 : wrap64 (c + 1) = c + 1 := by unfold wrap64; omega
    have e2 : wrap64 (c + 1 + 1) = c + 1 + 1 := by unfold wrap64; omega
    have e3 : wrap64 (c + 1 + 1 + 1) = c + 1 + 1 + 1 := by unfold wrap64; omega
    simp only [laws_markSignS.l0, Option.bind_some, Int.toNat_natCast]
    rw [if_pos (by omega), if_pos (by omega), w1 hlt (by omega)]
    simp only [e1, e2, e3, List.set_set, rdsetSign x n _ hlt]
    rw [ih k _ _ (n + 1) (by rw [List.length_set]; omega) (by rw [List.length_set]; omega) (by rw [List.length_set]; omega) (by omega) (by omega) (by omega), set_take _ _ _ hlt]
    congr 1
    refine Prod.ext ?_ ?_
    · show _ = _
      omega
    · simp [markedSign]
theorem laws_markSignS.ok (x : List S116) (c : Int) (hm : x.length ≤ 1048576) (h0 : 0 ≤ c) (h1 : c ≤ 1000000) (k : Nat) (hk : x.length < k) : laws_markSignS.f k x c = some (c + 3 * x.length, markedSign x.length c) := by
  unfold laws_markSignS.f
  have h := laws_markSignS.loop x.length k x c 0 hm (by omega) (by omega) hk h0 (by omega)
  simpa using h
theorem laws_heldSignS.loop (x : List S116) (hm : x.length ≤ 1048576) : ∀ (d k : Nat) (c : Int) (n : Nat), n ≤ x.length → x.length - n = d → d < k → 0 ≤ c → c ≤ 1000000000000 - 3 * d → x.drop n = markedSign d c → laws_heldSignS.l0 k x c (n : Int) = some (c + 3 * d) := by
  intro d
  induction d with
  | zero =>
    intro k c n hn hd hk h0 h1 hx
    obtain ⟨k, rfl⟩ : ∃ m, k = m + 1 := ⟨k - 1, by omega⟩
    simp only [laws_heldSignS.l0]
    rw [if_neg (by omega)]
    simp
  | succ d ih =>
    intro k c n hn hd hk h0 h1 hx
    obtain ⟨k, rfl⟩ : ∃ m, k = m + 1 := ⟨k - 1, by omega⟩
    have hlt : n < x.length := by omega
    have e1 : wrap64 (c + 1) = c + 1 := by unfold wrap64; omega
    have e2 : wrap64 (c + 1 + 1) = c + 1 + 1 := by unfold wrap64; omega
    have e3 : wrap64 (c + 1 + 1 + 1) = c + 1 + 1 + 1 := by unfold wrap64; omega
    rw [List.drop_eq_getElem_cons hlt] at hx
    simp only [markedSign, List.cons.injEq] at hx
    obtain ⟨hx1, hx2⟩ := hx
    simp only [laws_heldSignS.l0]
    rw [if_pos (by omega), if_pos (by omega), w1 hlt (by omega), rdT116 x n hlt, hx1]
    simp only [e1, e2, e3, if_true, bne_self_eq_false, Bool.false_eq_true, if_false]
    rw [ih k _ (n + 1) (by omega) (by omega) (by omega) (by omega) (by omega) hx2]
    congr 1
    omega
theorem laws_heldSignS.ok (m : Nat) (c : Int) (hm : m ≤ 1048576) (h0 : 0 ≤ c) (h1 : c ≤ 1000000) (k : Nat) (hk : m < k) : laws_heldSignS.f k (markedSign m c) c = some (c + 3 * m) := by
  unfold laws_heldSignS.f
  have h := laws_heldSignS.loop (markedSign m c) (by rw [markedSign_length]; exact hm) m k c 0 (by omega) (by rw [markedSign_length]; omega) hk h0 (by omega) (by simp)
  simpa using h

end Go.Proofs.Ytiophiipmgpaeaa.F
