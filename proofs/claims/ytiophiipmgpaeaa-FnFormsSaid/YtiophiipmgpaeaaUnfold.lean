/- The played bars of a form: unfolded, written, passes, times. -/
import Derived.Test.YtiophiipmgpaeaaForm
import Derived.Test.YtiophiipmgpaeaaF171
import Derived.Test.YtiophiipmgpaeaaF169
import Derived.Test.YtiophiipmgpaeaaF172
import Derived.Test.YtiophiipmgpaeaaF173
import Derived.Test.YtiophiipmgpaeaaF174
import Derived.Test.YtiophiipmgpaeaaF175
import Derived.Test.YtiophiipmgpaeaaF176
namespace Go.Proofs.Ytiophiipmgpaeaa.F
open Go.RowKit Go.Proofs.Ytiophiipmgpaeaa.Opened Go.Proofs.YtiophiipmgpaeaaW.PrintWords Go.Proofs.YtiophiipmgpaeaaW.PrintLast Go.Proofs.YtiophiipmgpaeaaW.PrintMore
set_option linter.unusedVariables false
set_option linter.unusedSimpArgs false
/-- The bars that are played, in their order; none, if the form is none. -/
def unfB (l : List Sec) : List Int := if isFormB l = true then (unf l).map (fun b => b.f0) else []
theorem unfB_length (l : List Sec) : (unfB l).length ≤ 200 := by
  unfold unfB
  split
  · rw [List.length_map]
    exact ((isFormB_iff l).1 ‹_›).2.2
  · simp
theorem impl_Unfold.loop (u : List Pb) (hm : u.length ≤ 1048576) : ∀ (d k : Nat) (acc : List Int) (n : Nat), u.length - n ≤ d → d < k → acc.length + d ≤ 2000000 → impl_Unfold.l0 k acc u u.length (n : Int) = some (acc ++ (u.drop n).map (fun b => b.f0)) := by
  intro d
  induction d with
  | zero =>
    intro k acc n hd hk ha
    obtain ⟨k, rfl⟩ : ∃ m, k = m + 1 := ⟨k - 1, by omega⟩
    simp only [impl_Unfold.l0]
    rw [if_neg (by omega), List.drop_of_length_le (by omega)]
    simp
  | succ d ih =>
    intro k acc n hd hk ha
    obtain ⟨k, rfl⟩ : ∃ m, k = m + 1 := ⟨k - 1, by omega⟩
    by_cases h : n < u.length
    · simp only [impl_Unfold.l0]
      rw [if_pos (by omega), if_pos (by omega), if_pos (by omega), if_pos (by omega), rdT152 u n h, w1 h (by omega), ih k _ (n + 1) (by omega) (by omega) (by simp; omega), List.drop_eq_getElem_cons h]
      simp only [List.map_cons, List.append_assoc, List.singleton_append]
    · simp only [impl_Unfold.l0]
      rw [if_neg (by omega), List.drop_of_length_le (by omega)]
      simp
theorem impl_Unfold.ok (l : List Sec) (k : Nat) (hk : 7000 < k) : impl_Unfold.f k l = some (unfB l) := by
  unfold impl_Unfold.f unfB
  rw [impl_IsForm.ok l k (by omega)]
  simp only [Option.bind_some]
  by_cases h : isFormB l = true
  · obtain ⟨h1, h2, h3⟩ := (isFormB_iff l).1 h
    rw [if_pos h, if_pos h, impl_unfold.ok l h1 h2 k (by omega)]
    simp only [Option.bind_some]
    have := impl_Unfold.loop (unf l) (by omega) (unf l).length k [] 0 (by omega) (by omega) (by simp; omega)
    simpa using this
  · rw [if_neg h, if_neg h]
theorem spec_Unfold.bars (l : List Sec) (i : Nat) (hi : i < l.length) (h10 : l.length ≤ 10) (he : okS l[i]) (x5 : Int) (h5 : (0 : Int) ≤ x5 ∧ x5 ≤ 4) (R : List Int) (B : Nat) : ∀ (d : Nat) (acc : List Int) (x6 : Int), (l[i].f1 - x6 + 1).toNat = d → (1 : Int) ≤ x6 → x6 ≤ l[i].f1 + 1 → acc.length + d ≤ 1000000 → ∀ p : Int,
    (∀ k, B < k → spec_Unfold.l1 k l (acc ++ (barsP p x6 d).map (fun b => b.f0)) (i : Int) (x5 + 1) = some R) → ∀ k, B + d + 1 < k → spec_Unfold.l2 k l acc (i : Int) x5 x6 = some R := by
  intro d
  have h100 : l[i].f1 ≤ 100 := he.2.1
  induction d with
  | zero =>
    intro acc x6 hd h1 h7 hl p hR k hk
    obtain ⟨k, rfl⟩ : ∃ m, k = m + 1 := ⟨k - 1, by omega⟩
    simp only [spec_Unfold.l2]
    rw [if_pos (by omega), if_pos (by omega), rdT154 l i hi, if_neg (by omega), wsum (by omega)]
    have := hR k (by omega)
    simpa [barsP] using this
  | succ d ih =>
    intro acc x6 hd h1 h7 hl p hR k hk
    obtain ⟨k, rfl⟩ : ∃ m, k = m + 1 := ⟨k - 1, by omega⟩
    simp only [spec_Unfold.l2]
    rw [if_pos (by omega), if_pos (by omega), rdT154 l i hi, if_pos (by omega), if_pos (by omega), wsum (by omega)]
    refine ih (acc ++ [x6]) (x6 + 1) (by omega) (by omega) (by omega) (by simp; omega) p ?_ k (by omega)
    intro k' hk'
    have := hR k' hk'
    rw [barsP, List.map_cons] at this
    rw [List.append_assoc]
    exact this
theorem spec_Unfold.passes (l : List Sec) (i : Nat) (hi : i < l.length) (h10 : l.length ≤ 10) (he : okS l[i]) (R : List Int) (B : Nat) : ∀ (d : Nat) (acc : List Int) (x5 : Int), (l[i].f2 - x5).toNat = d → (0 : Int) ≤ x5 → x5 ≤ l[i].f2 → acc.length + 100 * d ≤ 1000000 → ∀ p : Int,
    (∀ k, B < k → spec_Unfold.l0 k l (acc ++ (passesP l[i] p d).map (fun b => b.f0)) (wrap64 ((i : Int) + 1)) = some R) → ∀ k, B + 102 * d + 1 < k → spec_Unfold.l1 k l acc (i : Int) x5 = some R := by
  intro d
  obtain ⟨hn1, hn2, hn3⟩ := nb_le he
  have h4 : l[i].f2 ≤ 4 := he.2.2.2
  have hf0 : (1 : Int) ≤ l[i].f0 := he.1.1
  have hf1 : l[i].f0 ≤ l[i].f1 := he.1.2
  induction d with
  | zero =>
    intro acc x5 hd h1 h6 hl p hR k hk
    obtain ⟨k, rfl⟩ : ∃ m, k = m + 1 := ⟨k - 1, by omega⟩
    simp only [spec_Unfold.l1]
    rw [if_pos (by omega), if_pos (by omega), rdT154 l i hi, if_neg (by omega)]
    have := hR k (by omega)
    simpa [passesP] using this
  | succ d ih =>
    intro acc x5 hd h1 h6 hl p hR k hk
    obtain ⟨k, rfl⟩ : ∃ m, k = m + 1 := ⟨k - 1, by omega⟩
    simp only [spec_Unfold.l1]
    rw [if_pos (by omega), if_pos (by omega), rdT154 l i hi, if_pos (by omega)]
    refine spec_Unfold.bars l i hi h10 he x5 (by omega) R (B + 102 * d + 1) (nb l[i]) acc l[i].f0 rfl hf0 (by omega) (by omega) p ?_ k (by omega)
    refine ih (acc ++ (barsP p l[i].f0 (nb l[i])).map (fun b => b.f0)) (x5 + 1) (by omega) (by omega) (by omega) (by rw [List.length_append, List.length_map, barsP_length]; omega) (p + 1) ?_
    intro k' hk'
    have := hR k' hk'
    rw [passesP, List.map_append] at this
    rw [List.append_assoc]
    exact this
theorem spec_Unfold.loop (l : List Sec) (hf : isFormB l = true) : ∀ (d k : Nat) (acc : List Int) (n : Nat), l.length - n = d → n ≤ l.length → acc.length + 400 * d ≤ 1000000 → 412 * d + 200 < k → spec_Unfold.l0 k l acc (n : Int) = some (acc ++ (unf (l.drop n)).map (fun b => b.f0)) := by
  obtain ⟨hl, hok, h200⟩ := (isFormB_iff l).1 hf
  intro d
  induction d with
  | zero =>
    intro k acc n hd hn ha hk
    obtain ⟨k, rfl⟩ : ∃ m, k = m + 2 := ⟨k - 2, by omega⟩
    simp only [spec_Unfold.l0, spec_Unfold.j1]
    rw [if_neg (by omega), List.drop_of_length_le (by omega)]
    simp [unf]
  | succ d ih =>
    intro k acc n hd hn ha hk
    obtain ⟨k, rfl⟩ : ∃ m, k = m + 2 := ⟨k - 2, by omega⟩
    have h : n < l.length := by omega
    have he := hok l[n] (List.getElem_mem h)
    have hlen := passes_le he
    have h4 : l[n].f2 ≤ 4 := he.2.2.2
    have h41 : (1 : Int) ≤ l[n].f2 := he.2.2.1
    simp only [spec_Unfold.l0]
    rw [if_pos (by omega), spec_IsForm.ok l (k + 1) (by omega), hf]
    simp only [Option.bind_some, spec_Unfold.j1, if_true]
    refine spec_Unfold.passes l n h hl he _ (412 * d + 200) l[n].f2.toNat acc 0 (by omega) (by omega) (by omega) (by omega) 1 ?_ k (by omega)
    intro k' hk'
    rw [w1 h (by omega), ih k' _ (n + 1) (by omega) (by omega) (by rw [List.length_append, List.length_map]; omega) hk', List.drop_eq_getElem_cons h, unf, List.map_append, List.append_assoc]
theorem spec_Unfold.ok (l : List Sec) (hm : l.length ≤ 1048576) (k : Nat) (hk : 7000 < k) : spec_Unfold.f k l = some (unfB l) := by
  unfold spec_Unfold.f unfB
  by_cases h : isFormB l = true
  · obtain ⟨h1, h2, h3⟩ := (isFormB_iff l).1 h
    rw [if_pos h]
    have := spec_Unfold.loop l h l.length k [] 0 (by omega) (by omega) (by simp; omega) (by omega)
    simpa using this
  · obtain ⟨k, rfl⟩ : ∃ m, k = m + 2 := ⟨k - 2, by omega⟩
    rw [if_neg h]
    have hf : isFormB l = false := by simpa using h
    simp only [spec_Unfold.l0, spec_Unfold.j1]
    by_cases h0 : (0 : Int) < l.length
    · rw [if_pos h0, spec_IsForm.ok l (k + 1) (by omega), hf]
      rfl
    · rw [if_neg h0]
      rfl
/-- The bar that is played as the n-th. -/
def playedB (l : List Sec) (n : Int) : Pb := if isFormB l = true ∧ ((1 : Int) ≤ n ∧ n ≤ (unf l).length) then (unf l).getD (n - 1).toNat ⟨0, 0⟩ else ⟨0, 0⟩
theorem impl_playedAs.ok (l : List Sec) (n : Int) (k : Nat) (hk : 7000 < k) : impl_playedAs.f k l n = some ((playedB l n).f0, (playedB l n).f1) := by
  unfold impl_playedAs.f playedB
  rw [impl_IsForm.ok l k (by omega)]
  simp only [Option.bind_some]
  by_cases h : isFormB l = true
  · obtain ⟨h1, h2, h3⟩ := (isFormB_iff l).1 h
    rw [if_pos h, impl_unfold.ok l h1 h2 k (by omega)]
    simp only [Option.bind_some, impl_InRange.ok]
    by_cases hr : (1 : Int) ≤ n ∧ n ≤ (unf l).length
    · have e : wrap64 (n - 1) = n - 1 := wsum (by omega)
      rw [if_pos (by simpa using hr), e, if_pos (by omega), if_pos (by omega), if_pos ⟨h, hr⟩]
      rfl
    · rw [if_neg (by simpa using hr), if_neg (fun h => hr h.2)]
  · rw [if_neg h, if_neg (fun h' => h h'.1)]
theorem playedB_bar (l : List Sec) (n : Int) : (playedB l n).f0 = if (1 : Int) ≤ n ∧ n ≤ (unfB l).length then (unfB l).getD (n - 1).toNat 0 else 0 := by
  unfold playedB unfB
  by_cases h : isFormB l = true
  · by_cases hr : (1 : Int) ≤ n ∧ n ≤ (unf l).length
    · have hn : (n - 1).toNat < (unf l).length := by omega
      simp [h, hr]
      cases (unf l)[n.toNat - 1]? <;> rfl
    · simp [h, hr]
  · have : ¬ ((1 : Int) ≤ n ∧ n ≤ 0) := by omega
    simp [h, this]
theorem impl_WrittenBar.ok (l : List Sec) (n : Int) (k : Nat) (hk : 7000 < k) : impl_WrittenBar.f k l n = some (playedB l n).f0 := by
  unfold impl_WrittenBar.f
  rw [impl_playedAs.ok l n k hk]
  rfl
theorem impl_PassOf.ok (l : List Sec) (n : Int) (k : Nat) (hk : 7000 < k) : impl_PassOf.f k l n = some (playedB l n).f1 := by
  unfold impl_PassOf.f
  rw [impl_playedAs.ok l n k hk]
  rfl
theorem barsP_get (p : Int) : ∀ (d : Nat) (f : Int) (n : Nat), n < d → (barsP p f d)[n]? = some ⟨f + n, p⟩ := by
  intro d
  induction d with
  | zero => intro f n h; omega
  | succ d ih =>
    intro f n h
    cases n with
    | zero => simp [barsP]
    | succ n =>
      simp only [barsP, List.getElem?_cons_succ]
      rw [ih (f + 1) n (by omega)]
      congr 2
      omega
theorem passesP_get (e : Sec) (hn : 1 ≤ nb e) : ∀ (d : Nat) (p : Int) (n : Nat), n < d * nb e → ∃ f, (passesP e p d)[n]? = some ⟨f, p + ((n / nb e : Nat) : Int)⟩ := by
  intro d
  induction d with
  | zero => intro p n h; omega
  | succ d ih =>
    intro p n h
    rw [passesP]
    by_cases hlt : n < nb e
    · refine ⟨e.f0 + n, ?_⟩
      rw [List.getElem?_append_left (by rw [barsP_length]; exact hlt), barsP_get p _ _ n hlt, Nat.div_eq_of_lt hlt]
      simp
    · rw [Nat.succ_mul] at h
      obtain ⟨f, hf⟩ := ih (p + 1) (n - nb e) (by omega)
      refine ⟨f, ?_⟩
      rw [List.getElem?_append_right (by rw [barsP_length]; omega), barsP_length, hf]
      have e1 : n / nb e = (n - nb e) / nb e + 1 := by
        rw [← Nat.add_div_right _ (by omega)]
        congr 1
        omega
      rw [e1]
      congr 2
      omega
def firstT (bar : Int) : Nat → List Int → Int
  | _, [] => 0
  | n, b :: l => if b = bar then (n : Int) + 1 else firstT bar (n + 1) l
theorem impl_FirstTime.loop (bar : Int) (u : List Int) (hm : u.length ≤ 1048576) : ∀ (d k n : Nat), u.length - n ≤ d → d < k → impl_FirstTime.l0 k bar u u.length (n : Int) = some (firstT bar n (u.drop n)) := by
  intro d
  induction d with
  | zero =>
    intro k n hd hk
    obtain ⟨k, rfl⟩ : ∃ m, k = m + 1 := ⟨k - 1, by omega⟩
    simp only [impl_FirstTime.l0]
    rw [if_neg (by omega), List.drop_of_length_le (by omega)]
    rfl
  | succ d ih =>
    intro k n hd hk
    obtain ⟨k, rfl⟩ : ∃ m, k = m + 1 := ⟨k - 1, by omega⟩
    by_cases h : n < u.length
    · simp only [impl_FirstTime.l0]
      rw [if_pos (by omega), if_pos (by omega), if_pos (by omega), rd_nat u n h, w1 h (by omega), List.drop_eq_getElem_cons h, firstT]
      by_cases c : u[n] = bar
      · rw [if_pos c, if_pos c]
        congr 1
      · rw [if_neg c, if_neg c, ih k (n + 1) (by omega) (by omega)]
    · simp only [impl_FirstTime.l0]
      rw [if_neg (by omega), List.drop_of_length_le (by omega)]
      rfl
theorem impl_FirstTime.ok (l : List Sec) (bar : Int) (k : Nat) (hk : 7000 < k) : impl_FirstTime.f k l bar = some (firstT bar 0 (unfB l)) := by
  unfold impl_FirstTime.f
  have hl := unfB_length l
  rw [impl_Unfold.ok l k hk]
  exact impl_FirstTime.loop bar (unfB l) (by omega) (unfB l).length k 0 (by omega) (by omega)
theorem impl_CountTimes.loop (bar : Int) (u : List Int) (hm : u.length ≤ 1048576) : ∀ (d k n : Nat) (c : Int), u.length - n ≤ d → d < k → (0 : Int) ≤ c → c ≤ n → impl_CountTimes.l0 k bar c u u.length (n : Int) = some (c + ((u.drop n).countP (fun b => decide (b = bar)) : Nat)) := by
  intro d
  induction d with
  | zero =>
    intro k n c hd hk h0 h1
    obtain ⟨k, rfl⟩ : ∃ m, k = m + 1 := ⟨k - 1, by omega⟩
    simp only [impl_CountTimes.l0]
    rw [if_neg (by omega), List.drop_of_length_le (by omega)]
    simp
  | succ d ih =>
    intro k n c hd hk h0 h1
    obtain ⟨k, rfl⟩ : ∃ m, k = m + 1 := ⟨k - 1, by omega⟩
    by_cases h : n < u.length
    · simp only [impl_CountTimes.l0]
      rw [if_pos (by omega), if_pos (by omega), if_pos (by omega), rd_nat u n h, w1 h (by omega), List.drop_eq_getElem_cons h, List.countP_cons]
      by_cases e : u[n] = bar
      · rw [if_pos e, wid (x := c + 1) (by omega) (by omega), ih k (n + 1) (c + 1) (by omega) (by omega) (by omega) (by omega)]
        simp [e]
        omega
      · rw [if_neg e, ih k (n + 1) c (by omega) (by omega) (by omega) (by omega)]
        simp [e]
    · simp only [impl_CountTimes.l0]
      rw [if_neg (by omega), List.drop_of_length_le (by omega)]
      simp
theorem impl_CountTimes.ok (l : List Sec) (bar : Int) (k : Nat) (hk : 7000 < k) : impl_CountTimes.f k l bar = some (((unfB l).countP (fun b => decide (b = bar)) : Nat) : Int) := by
  unfold impl_CountTimes.f
  have hl := unfB_length l
  rw [impl_Unfold.ok l k hk]
  have := impl_CountTimes.loop bar (unfB l) (by omega) (unfB l).length k 0 0 (by omega) (by omega) (by omega) (by omega)
  simpa using this
end Go.Proofs.Ytiophiipmgpaeaa.F
