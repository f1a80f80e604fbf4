/- Forms: their test, and how they are unfolded. -/
import Derived.Test.YtiophiipmgpaeaaInts
import Derived.Test.YtiophiipmgpaeaaF170
import Derived.Test.YtiophiipmgpaeaaF167
import Derived.Test.YtiophiipmgpaeaaF168
namespace Go.Proofs.Ytiophiipmgpaeaa.F
open Go.RowKit Go.Proofs.Ytiophiipmgpaeaa.Opened Go.Proofs.YtiophiipmgpaeaaW.PrintWords Go.Proofs.YtiophiipmgpaeaaW.PrintLast Go.Proofs.YtiophiipmgpaeaaW.PrintMore
set_option linter.unusedVariables false
set_option linter.unusedSimpArgs false

abbrev Sec := S154
abbrev Pb := S152
def okS (e : Sec) : Prop := ((1 : Int) ≤ e.f0 ∧ e.f0 ≤ e.f1) ∧ e.f1 ≤ 100 ∧ ((1 : Int) ≤ e.f2 ∧ e.f2 ≤ 4)
instance (e : Sec) : Decidable (okS e) := by unfold okS; infer_instance
/-- How many bars one pass of a section has. -/
def nb (e : Sec) : Nat := (e.f1 - e.f0 + 1).toNat
def barsP (p f : Int) : Nat → List Pb
  | 0 => []
  | d + 1 => ⟨f, p⟩ :: barsP p (f + 1) d
def passesP (e : Sec) (p : Int) : Nat → List Pb
  | 0 => []
  | d + 1 => barsP p e.f0 (nb e) ++ passesP e (p + 1) d
/-- The bars of a form in the order in which they are played. -/
def unf : List Sec → List Pb
  | [] => []
  | e :: l => passesP e 1 e.f2.toNat ++ unf l
theorem barsP_length (p f : Int) (d : Nat) : (barsP p f d).length = d := by
  induction d generalizing f with
  | zero => rfl
  | succ d ih => simp [barsP, ih]
theorem passesP_length (e : Sec) (p : Int) (d : Nat) : (passesP e p d).length = d * nb e := by
  induction d generalizing p with
  | zero => simp [passesP]
  | succ d ih => simp [passesP, ih, barsP_length, Nat.succ_mul, Nat.add_comm]
theorem nb_le {e : Sec} (h : okS e) : 1 ≤ nb e ∧ nb e ≤ 100 ∧ (nb e : Int) = e.f1 - e.f0 + 1 := by
  unfold okS at h
  unfold nb
  omega
theorem passes_le {e : Sec} (h : okS e) : (passesP e 1 e.f2.toNat).length ≤ 400 := by
  rw [passesP_length]
  have h1 := (nb_le h).2.1
  have h2 : e.f2.toNat ≤ 4 := by unfold okS at h; omega
  calc e.f2.toNat * nb e ≤ 4 * 100 := Nat.mul_le_mul h2 h1
    _ ≤ 400 := by omega
theorem unf_length_le (l : List Sec) (h : ∀ x ∈ l, okS x) : (unf l).length ≤ 400 * l.length := by
  induction l with
  | nil => simp [unf]
  | cons e l ih =>
    have h1 := passes_le (h e (by simp))
    have h2 := ih (fun x hx => h x (by simp [hx]))
    simp only [unf, List.length_append, List.length_cons]
    omega
def isFormB (l : List Sec) : Bool := decide (l.length ≤ 10) && (l.all (fun e => decide (okS e)) && decide ((unf l).length ≤ 200))
theorem isFormB_iff (l : List Sec) : isFormB l = true ↔ l.length ≤ 10 ∧ (∀ x ∈ l, okS x) ∧ (unf l).length ≤ 200 := by
  unfold isFormB
  simp [List.all_eq_true]
theorem wsum {x : Int} (h : (0 : Int) ≤ x ∧ x ≤ 1000000) : wrap64 x = x := wid (by omega) (by omega)

/-! ### the program's unfolding -/
theorem impl_unfold.bars (l : List Sec) (n i : Int) (e : Sec) (he : okS e) (x6 : Int) (h6 : (1 : Int) ≤ x6 ∧ x6 ≤ 4) (R : List Pb) (B : Nat) : ∀ (d : Nat) (acc : List Pb) (x7 : Int), (e.f1 - x7 + 1).toNat = d → (1 : Int) ≤ x7 → x7 ≤ e.f1 + 1 → acc.length + d ≤ 1000000 →
    (∀ k, B < k → impl_unfold.l1 k (acc ++ barsP x6 x7 d) (x6 + 1) l n i e.f0 e.f1 e.f2 = some R) → ∀ k, B + d + 1 < k → impl_unfold.l2 k acc x6 x7 l n i e.f0 e.f1 e.f2 = some R := by
  intro d
  have h100 : e.f1 ≤ 100 := he.2.1
  induction d with
  | zero =>
    intro acc x7 hd h1 h7 hl hR k hk
    obtain ⟨k, rfl⟩ : ∃ m, k = m + 1 := ⟨k - 1, by omega⟩
    simp only [impl_unfold.l2]
    rw [if_neg (by omega), wsum (by omega)]
    have := hR k (by omega)
    simpa [barsP] using this
  | succ d ih =>
    intro acc x7 hd h1 h7 hl hR k hk
    obtain ⟨k, rfl⟩ : ∃ m, k = m + 1 := ⟨k - 1, by omega⟩
    simp only [impl_unfold.l2]
    rw [if_pos (by omega), if_pos (by omega), wsum (by omega)]
    refine ih (acc ++ [⟨x7, x6⟩]) (x7 + 1) (by omega) (by omega) (by omega) (by simp; omega) ?_ k (by omega)
    intro k' hk'
    have := hR k' hk'
    rw [barsP] at this
    rw [List.append_assoc]
    exact this
theorem impl_unfold.passes (l : List Sec) (n i : Int) (e : Sec) (he : okS e) (R : List Pb) (B : Nat) : ∀ (d : Nat) (acc : List Pb) (x6 : Int), (e.f2 - x6 + 1).toNat = d → (1 : Int) ≤ x6 → x6 ≤ e.f2 + 1 → acc.length + 100 * d ≤ 1000000 →
    (∀ k, B < k → impl_unfold.l0 k (acc ++ passesP e x6 d) l n (wrap64 (i + 1)) = some R) → ∀ k, B + 102 * d + 1 < k → impl_unfold.l1 k acc x6 l n i e.f0 e.f1 e.f2 = some R := by
  intro d
  obtain ⟨hn1, hn2, hn3⟩ := nb_le he
  have h4 : e.f2 ≤ 4 := he.2.2.2
  have hf0 : (1 : Int) ≤ e.f0 := he.1.1
  have hf1 : e.f0 ≤ e.f1 := he.1.2
  induction d with
  | zero =>
    intro acc x6 hd h1 h6 hl hR k hk
    obtain ⟨k, rfl⟩ : ∃ m, k = m + 1 := ⟨k - 1, by omega⟩
    simp only [impl_unfold.l1]
    rw [if_neg (by omega)]
    have := hR k (by omega)
    simpa [passesP] using this
  | succ d ih =>
    intro acc x6 hd h1 h6 hl hR k hk
    obtain ⟨k, rfl⟩ : ∃ m, k = m + 1 := ⟨k - 1, by omega⟩
    simp only [impl_unfold.l1]
    rw [if_pos (by omega)]
    refine impl_unfold.bars l n i e he x6 (by omega) R (B + 102 * d + 1) (nb e) acc e.f0 rfl hf0 (by omega) (by omega) ?_ k (by omega)
    refine ih (acc ++ barsP x6 e.f0 (nb e)) (x6 + 1) (by omega) (by omega) (by omega) (by rw [List.length_append, barsP_length]; omega) ?_
    intro k' hk'
    have := hR k' hk'
    rw [passesP] at this
    rw [List.append_assoc]
    exact this
theorem impl_unfold.loop (l : List Sec) (hl : l.length ≤ 10) (hok : ∀ x ∈ l, okS x) : ∀ (d k : Nat) (acc : List Pb) (n : Nat), l.length - n = d → n ≤ l.length → acc.length + 400 * d ≤ 1000000 → 410 * d < k → impl_unfold.l0 k acc l l.length (n : Int) = some (acc ++ unf (l.drop n)) := by
  intro d
  induction d with
  | zero =>
    intro k acc n hd hn ha hk
    obtain ⟨k, rfl⟩ : ∃ m, k = m + 1 := ⟨k - 1, by omega⟩
    simp only [impl_unfold.l0]
    rw [if_neg (by omega), List.drop_of_length_le (by omega)]
    simp [unf]
  | succ d ih =>
    intro k acc n hd hn ha hk
    obtain ⟨k, rfl⟩ : ∃ m, k = m + 1 := ⟨k - 1, by omega⟩
    have h : n < l.length := by omega
    have he := hok l[n] (List.getElem_mem h)
    have hlen := passes_le he
    have h4 : l[n].f2 ≤ 4 := he.2.2.2
    have h41 : (1 : Int) ≤ l[n].f2 := he.2.2.1
    simp only [impl_unfold.l0]
    rw [if_pos (by omega), if_pos (by omega), if_pos (by omega), rdT154 l n h]
    refine impl_unfold.passes l l.length n l[n] he _ (410 * d) l[n].f2.toNat acc 1 (by omega) (by omega) (by omega) (by omega) ?_ k (by omega)
    intro k' hk'
    rw [w1 h (by omega), ih k' _ (n + 1) (by omega) (by omega) (by rw [List.length_append]; omega) hk', List.drop_eq_getElem_cons h, unf, List.append_assoc]
theorem impl_unfold.ok (l : List Sec) (hl : l.length ≤ 10) (hok : ∀ x ∈ l, okS x) (k : Nat) (hk : 5000 < k) : impl_unfold.f k l = some (unf l) := by
  unfold impl_unfold.f
  have := impl_unfold.loop l hl hok l.length k [] 0 (by omega) (by omega) (by simp; omega) (by omega)
  simpa using this
theorem impl_IsForm.loop (l : List Sec) (hl : l.length ≤ 10) : ∀ (d k n : Nat), l.length - n ≤ d → 5001 + d < k → (∀ x ∈ l.take n, okS x) → impl_IsForm.l0 k l l l.length (n : Int) = some ((l.drop n).all (fun e => decide (okS e)) && decide ((unf l).length ≤ 200)) := by
  intro d
  induction d with
  | zero =>
    intro k n hd hk hp
    obtain ⟨k, rfl⟩ : ∃ m, k = m + 1 := ⟨k - 1, by omega⟩
    simp only [impl_IsForm.l0]
    rw [List.take_of_length_le (by omega)] at hp
    rw [if_neg (by omega), List.drop_of_length_le (by omega), impl_unfold.ok l hl hp k (by omega)]
    have e : (((unf l).length : Int) ≤ 200) ↔ (unf l).length ≤ 200 := by omega
    simp [e]
  | succ d ih =>
    intro k n hd hk hp
    obtain ⟨k, rfl⟩ : ∃ m, k = m + 1 := ⟨k - 1, by omega⟩
    by_cases h : n < l.length
    · simp only [impl_IsForm.l0, impl_InRange.ok]
      rw [if_pos (by omega), if_pos (by omega), if_pos (by omega), rdT154 l n h, w1 h (by omega), List.drop_eq_getElem_cons h, List.all_cons]
      simp only [Option.bind_some]
      by_cases c1 : (1 : Int) ≤ l[n].f0 ∧ l[n].f0 ≤ l[n].f1
      · rw [if_pos (by simpa using c1)]
        by_cases c2 : l[n].f1 > 100
        · rw [if_pos c2]
          have : ¬ okS l[n] := by unfold okS; omega
          simp [this]
        · rw [if_neg c2]
          by_cases c3 : (1 : Int) ≤ l[n].f2 ∧ l[n].f2 ≤ 4
          · have ok : okS l[n] := ⟨c1, by omega, c3⟩
            rw [if_pos (by simpa using c3), ih k (n + 1) (by omega) (by omega) (fun x hx => by
              rw [take_next h, List.mem_append, List.mem_singleton] at hx
              rcases hx with hx | rfl
              · exact hp x hx
              · exact ok)]
            simp [ok]
          · rw [if_neg (by simpa using c3)]
            have : ¬ okS l[n] := fun h => c3 h.2.2
            simp [this]
      · rw [if_neg (by simpa using c1)]
        have : ¬ okS l[n] := fun h => c1 h.1
        simp [this]
    · simp only [impl_IsForm.l0]
      rw [List.take_of_length_le (by omega)] at hp
      rw [if_neg (by omega), List.drop_of_length_le (by omega), impl_unfold.ok l hl hp k (by omega)]
      have e : (((unf l).length : Int) ≤ 200) ↔ (unf l).length ≤ 200 := by omega
      simp [e]
theorem impl_IsForm.ok (l : List Sec) (k : Nat) (hk : 6000 < k) : impl_IsForm.f k l = some (isFormB l) := by
  unfold impl_IsForm.f isFormB
  by_cases h : l.length ≤ 10
  · rw [if_neg (by omega)]
    have := impl_IsForm.loop l h l.length k 0 (by omega) (by omega) (by simp)
    rw [List.drop_zero] at this
    have h' : decide (l.length ≤ 10) = true := by simpa using h
    rw [h', Bool.true_and]
    exact this
  · rw [if_pos (by omega)]
    simp [h]
/-! ### the reference's test -/
def total (l : List Sec) : Int := l.foldr (fun e n => (e.f1 - e.f0 + 1) * e.f2 + n) 0
theorem total_eq (l : List Sec) (h : ∀ x ∈ l, okS x) : total l = (unf l).length := by
  induction l with
  | nil => simp [total, unf]
  | cons e l ih =>
    have he := h e (by simp)
    have := ih (fun x hx => h x (by simp [hx]))
    obtain ⟨h1, h2, h3⟩ := nb_le he
    have h4 : (e.f2.toNat : Int) = e.f2 := by unfold okS at he; omega
    simp only [total, List.foldr_cons, unf, List.length_append, passesP_length] at *
    rw [this, ← h3, Int.natCast_add, Int.natCast_mul, h4, Int.mul_comm]
theorem mul_bd {e : Sec} (h : okS e) : 0 ≤ (e.f1 - e.f0 + 1) * e.f2 ∧ (e.f1 - e.f0 + 1) * e.f2 ≤ 400 := by
  unfold okS at h
  obtain ⟨⟨h1, h2⟩, h3, h4, h5⟩ := h
  have : e.f2 = 1 ∨ e.f2 = 2 ∨ e.f2 = 3 ∨ e.f2 = 4 := by omega
  rcases this with h | h | h | h <;> rw [h] <;> omega
theorem total_bd (l : List Sec) (h : ∀ x ∈ l, okS x) : 0 ≤ total l ∧ total l ≤ 400 * l.length := by
  induction l with
  | nil => simp [total]
  | cons e l ih =>
    have := ih (fun x hx => h x (by simp [hx]))
    have hb := mul_bd (h e (by simp))
    simp only [total, List.foldr_cons, List.length_cons] at *
    omega
theorem spec_IsForm.loop (l : List Sec) (hl : l.length ≤ 10) : ∀ (d k n : Nat) (acc : Int), l.length - n ≤ d → 2 * d + 1 < k → 0 ≤ acc → acc ≤ 400 * n → n ≤ l.length → spec_IsForm.l0 k l acc (n : Int) = some ((l.drop n).all (fun e => decide (okS e)) && decide (acc + total (l.drop n) ≤ 200)) := by
  intro d
  induction d with
  | zero =>
    intro k n acc hd hk h0 h1 hn
    obtain ⟨k, rfl⟩ : ∃ m, k = m + 2 := ⟨k - 2, by omega⟩
    simp only [spec_IsForm.l0, spec_IsForm.j1]
    rw [if_neg (by omega), List.drop_of_length_le (by omega), if_pos (show (l.length : Int) ≤ 10 by omega)]
    simp [total]
  | succ d ih =>
    intro k n acc hd hk h0 h1 hn
    obtain ⟨k, rfl⟩ : ∃ m, k = m + 2 := ⟨k - 2, by omega⟩
    by_cases h : n < l.length
    · have h10 : decide ((l.length : Int) ≤ 10) = true := by simp; omega
      simp only [spec_IsForm.l0, spec_IsForm.j1, spec_l1In.ok, h10, Option.bind_some, if_true]
      rw [if_pos (by omega), if_pos (by omega), if_pos (by omega), rdT154 l n h, w1 h (by omega), List.drop_eq_getElem_cons h, List.all_cons]
      by_cases c1 : l[n].f0 < 1
      · rw [if_pos c1]
        have : ¬ okS l[n] := by unfold okS; omega
        simp [this]
      · rw [if_neg c1]
        by_cases c2 : l[n].f0 > l[n].f1
        · rw [if_pos c2]
          have : ¬ okS l[n] := by unfold okS; omega
          simp [this]
        · rw [if_neg c2]
          by_cases c3 : l[n].f1 > 100
          · rw [if_pos c3]
            have : ¬ okS l[n] := by unfold okS; omega
            simp [this]
          · rw [if_neg c3]
            by_cases c4 : (1 : Int) ≤ l[n].f2 ∧ l[n].f2 ≤ 4
            · have ok : okS l[n] := ⟨by omega, by omega, c4⟩
              have hb := mul_bd ok
              have e1 : wrap64 (l[n].f1 - l[n].f0) = l[n].f1 - l[n].f0 := wsum (by omega)
              have e2 : wrap64 (l[n].f1 - l[n].f0 + 1) = l[n].f1 - l[n].f0 + 1 := wsum (by omega)
              rw [if_pos (by simpa using c4), e1, e2, wsum (x := (l[n].f1 - l[n].f0 + 1) * l[n].f2) (by omega), wsum (x := acc + (l[n].f1 - l[n].f0 + 1) * l[n].f2) (by omega)]
              rw [ih k (n + 1) _ (by omega) (by omega) (by omega) (by omega) (by omega)]
              have ht : total (l[n] :: l.drop (n + 1)) = (l[n].f1 - l[n].f0 + 1) * l[n].f2 + total (l.drop (n + 1)) := rfl
              rw [ht, ← Int.add_assoc]
              simp [ok]
            · rw [if_neg (by simpa using c4)]
              have : ¬ okS l[n] := fun h => c4 h.2.2
              simp [this]
    · simp only [spec_IsForm.l0, spec_IsForm.j1]
      rw [if_neg (by omega), List.drop_of_length_le (by omega), if_pos (show (l.length : Int) ≤ 10 by omega)]
      simp [total]
theorem spec_IsForm.ok (l : List Sec) (k : Nat) (hk : 100 < k) : spec_IsForm.f k l = some (isFormB l) := by
  unfold spec_IsForm.f isFormB
  by_cases h : l.length ≤ 10
  · have := spec_IsForm.loop l h l.length k 0 0 (by omega) (by omega) (by omega) (by omega) (by omega)
    rw [List.drop_zero, Int.zero_add] at this
    have h' : decide (l.length ≤ 10) = true := by simpa using h
    rw [h', Bool.true_and]
    refine Eq.trans this ?_
    by_cases ha : (l.all fun e => decide (okS e)) = true
    · have hall : ∀ x ∈ l, okS x := by simpa [List.all_eq_true] using ha
      rw [ha, total_eq l hall]
      have e : (((unf l).length : Int) ≤ 200) ↔ (unf l).length ≤ 200 := by omega
      simp [e]
    · have ha' : (l.all fun e => decide (okS e)) = false := by simpa using ha
      rw [ha']
      rfl
  · obtain ⟨k, rfl⟩ : ∃ m, k = m + 2 := ⟨k - 2, by omega⟩
    have h10 : decide ((l.length : Int) ≤ 10) = false := by simp; omega
    simp only [spec_IsForm.l0, spec_IsForm.j1, h10]
    rw [if_pos (by omega)]
    simp [h]
    omega
end Go.Proofs.Ytiophiipmgpaeaa.F
