/- Marking a list of Tempo, and looking whether the marks stand. -/
import Derived.Test.YtinbdgngpkbgcaaBase
import Derived.Test.YtinbdgngpkbgcaaF16
import Derived.Test.YtinbdgngpkbgcaaF17
namespace Go.Proofs.Ytinbdgngpkbgcaa.F
open Go.RowKit Go.Proofs.Ytinbdgngpkbgcaa.Opened Go.Proofs.YtinbdgngpkbgcaaW.PrintWords Go.Proofs.YtinbdgngpkbgcaaW.PrintLast
set_option linter.unusedVariables false
set_option linter.unusedSimpArgs false

/-- m elements, numbered from c on. -/
def markedTempo : Nat → Int → List S74
  | 0, _ => []
  | m + 1, c => (⟨c, c + 1⟩ : S74) :: markedTempo m (c + 1 + 1)
theorem markedTempo_length (m : Nat) (c : Int) : (markedTempo m c).length = m := by
  induction m generalizing c with
  | zero => rfl
  | succ m ih => simp [markedTempo, ih]
theorem rdsetTempo (xs : List S74) (n : Nat) (v : S74) (h : n < xs.length) : rd_T74 (xs.set n v) (n : Int) = v := by
  rw [rdT74 _ n (by simpa using h)]
  simp
theorem laws_markTempoS.loop : ∀ (d k : Nat) (x : List S74) (c : Int) (n : Nat), x.length ≤ 1048576 → n ≤ x.length → x.length - n = d → d < k → 0 ≤ c → c ≤ 1000000000000 - 2 * d → laws_markTempoS.l0 k x c (n : Int) = some (c + 2 * d, x.take n ++ markedTempo d c) := by
  intro d
  induction d with
  | zero =>
    intro k x c n hm hn hd hk h0 h1
    obtain ⟨k, rfl⟩ : ∃ m, k = m + 1 := ⟨k - 1, by omega⟩
    simp only [laws_markTempoS.l0]
    rw [if_neg (by omega), List.take_of_length_le (by omega)]
    simp [markedTempo]
  | succ d ih =>
    intro k x c n hm hn hd hk h0 h1
    obtain ⟨k, rfl⟩ : ∃ m, k = m + 1 := ⟨k - 1, by omega⟩
    have hlt : n < x.length := by omega
    have e1 : wrap64 (c + 1) = c + 1 := by unfold wrap64; omega
    have e2 : wrap64 (c + 1 + 1) = c + 1 + 1 := by unfold wrap64; omega
    simp only [laws_markTempoS.l0, Option.bind_some, Int.toNat_natCast]
    rw [if_pos (by omega), if_pos (by omega), w1 hlt (by omega)]
    simp only [e1, e2, List.set_set, rdsetTempo x n _ hlt]
    rw [ih k _ _ (n + 1) (by rw [List.length_set]; omega) (by rw [List.length_set]; omega) (by rw [List.length_set]; omega) (by omega) (by omega) (by omega), set_take _ _ _ hlt]
    congr 1
    refine Prod.ext ?_ ?_
    · show _ = _
      omega
    · simp [markedTempo]
theorem laws_markTempoS.ok (x : List S74) (c : Int) (hm : x.length ≤ 1048576) (h0 : 0 ≤ c) (h1 : c ≤ 1000000) (k : Nat) (hk : x.length < k) : laws_markTempoS.f k x c = some (c + 2 * x.length, markedTempo x.length c) := by
  unfold laws_markTempoS.f
  have h := laws_markTempoS.loop x.length k x c 0 hm (by omega) (by omega) hk h0 (by omega)
  simpa using h
theorem laws_heldTempoS.loop (x : List S74) (hm : x.length ≤ 1048576) : ∀ (d k : Nat) (c : Int) (n : Nat), n ≤ x.length → x.length - n = d → d < k → 0 ≤ c → c ≤ 1000000000000 - 2 * d → x.drop n = markedTempo d c → laws_heldTempoS.l0 k x c (n : Int) = some (c + 2 * d) := by
  intro d
  induction d with
  | zero =>
    intro k c n hn hd hk h0 h1 hx
    obtain ⟨k, rfl⟩ : ∃ m, k = m + 1 := ⟨k - 1, by omega⟩
    simp only [laws_heldTempoS.l0]
    rw [if_neg (by omega)]
    simp
  | succ d ih =>
    intro k c n hn hd hk h0 h1 hx
    obtain ⟨k, rfl⟩ : ∃ m, k = m + 1 := ⟨k - 1, by omega⟩
    have hlt : n < x.length := by omega
    have e1 : wrap64 (c + 1) = c + 1 := by unfold wrap64; omega
    have e2 : wrap64 (c + 1 + 1) = c + 1 + 1 := by unfold wrap64; omega
    rw [List.drop_eq_getElem_cons hlt] at hx
    simp only [markedTempo, List.cons.injEq] at hx
    obtain ⟨hx1, hx2⟩ := hx
    simp only [laws_heldTempoS.l0]
    rw [if_pos (by omega), if_pos (by omega), w1 hlt (by omega), rdT74 x n hlt, hx1]
    simp only [e1, e2, if_true]
    rw [ih k _ (n + 1) (by omega) (by omega) (by omega) (by omega) (by omega) hx2]
    congr 1
    omega
theorem laws_heldTempoS.ok (m : Nat) (c : Int) (hm : m ≤ 1048576) (h0 : 0 ≤ c) (h1 : c ≤ 1000000) (k : Nat) (hk : m < k) : laws_heldTempoS.f k (markedTempo m c) c = some (c + 2 * m) := by
  unfold laws_heldTempoS.f
  have h := laws_heldTempoS.loop (markedTempo m c) (by rw [markedTempo_length]; exact hm) m k c 0 (by omega) (by rw [markedTempo_length]; omega) hk h0 (by omega) (by simp)
  simpa using h

end Go.Proofs.Ytinbdgngpkbgcaa.F
