/- The pure statement of FnForms: over numbers and lists alone. -/
import Derived.Test.YtiophiipmgpaeaaSay
import Derived.Test.YtiophiipmgpaeaaUnfold
import Derived.Test.YtiophiipmgpaeaaDraw
import Derived.Test.YtiophiipmgpaeaaF177
import Derived.Test.YtiophiipmgpaeaaF159
import Derived.Test.YtiophiipmgpaeaaF166
import Derived.Test.YtiophiipmgpaeaaF165
import Derived.Test.YtiophiipmgpaeaaF164
namespace Go.Proofs.Ytiophiipmgpaeaa.Pure
open Go.RowKit Go.Proofs.Ytiophiipmgpaeaa.F Go.Proofs.Ytiophiipmgpaeaa.Opened Go.Proofs.YtiophiipmgpaeaaW.PrintWords Go.Proofs.YtiophiipmgpaeaaW.PrintLast Go.Proofs.YtiophiipmgpaeaaW.PrintMore
set_option linter.unusedVariables false
set_option linter.unusedSimpArgs false

theorem drawLoop (b : List Int) (hb : b.length ≤ 1048576) : ∀ (d k : Nat) (acc : List Sec) (i h : Int), 0 ≤ i → i ≤ b.length → d < k → acc.length + d ≤ 1000 → ∃ l i' h', spec_l12Draw.l0 k acc (d : Int) b i h = some (l, i', h') ∧ l.length = acc.length + d ∧ 0 ≤ i' ∧ i' ≤ b.length := by
  intro d
  induction d with
  | zero =>
    intro k acc i h hi hi' hk ha
    obtain ⟨k, rfl⟩ : ∃ m, k = m + 1 := ⟨k - 1, by omega⟩
    simp only [spec_l12Draw.l0]
    rw [if_neg (by omega)]
    exact ⟨_, _, _, rfl, by omega, hi, hi'⟩
  | succ d ih =>
    intro k acc i h hi hi' hk ha
    obtain ⟨k, rfl⟩ : ∃ m, k = m + 1 := ⟨k - 1, by omega⟩
    simp only [spec_l12Draw.l0]
    rw [if_pos (by omega)]
    obtain ⟨x1, i1, h1, e1, a1, b1, c1, d1⟩ := spec_l1Below.ok' b i h 9 (by omega) hb hi hi'
    rw [e1]
    simp only [Option.bind_some]
    obtain ⟨x2, i2, h2, e2, a2, b2, c2, d2⟩ := spec_l1Below.ok' b i1 h1 5 (by omega) hb c1 d1
    rw [e2]
    simp only [Option.bind_some]
    obtain ⟨x3, i3, h3, e3, a3, b3, c3, d3⟩ := spec_l1Below.ok' b i2 h2 3 (by omega) hb c2 d2
    rw [e3]
    simp only [Option.bind_some]
    have e : wrap64 (((d + 1 : Nat) : Int) - 1) = (d : Int) := by unfold wrap64; omega
    rw [if_pos (by omega), e]
    obtain ⟨l, i', h', e4, a4, b4, c4⟩ := ih k (acc ++ [⟨wrap64 (1 + x1), wrap64 (wrap64 (1 + x1) + x2), wrap64 (1 + x3)⟩]) i3 h3 c3 d3 (by omega) (by simp; omega)
    refine ⟨l, i', h', e4, ?_, b4, c4⟩
    rw [a4]
    simp
    omega
theorem drawAny (b : List Int) (hb : b.length ≤ 1048576) (k : Nat) (hk : 10 < k) (i h : Int) (hi : 0 ≤ i) (hi' : i ≤ b.length) : ∃ l i' h', spec_l12Any.f k b i h = some (l, i', h') ∧ l.length ≤ 4 ∧ 0 ≤ i' ∧ i' ≤ b.length := by
  unfold spec_l12Any.f spec_l12Draw.f
  obtain ⟨x1, i1, h1, e1, a1, b1, c1, d1⟩ := spec_l1Below.ok' b i h 5 (by omega) hb hi hi'
  rw [e1]
  simp only [Option.bind_some]
  obtain ⟨m, rfl⟩ := Int.eq_ofNat_of_zero_le a1
  obtain ⟨l, i2, h2, e2, a2, c2, d2⟩ := drawLoop b hb m k [] i1 h1 c1 d1 (by omega) (by simp; omega)
  rw [e2]
  simp only [Option.bind_some]
  have hl4 : l.length ≤ 4 := by rw [a2]; simp; omega
  by_cases h0 : (l.length : Int) = 0
  · rw [if_pos h0]
    exact ⟨_, _, _, rfl, hl4, c2, d2⟩
  · rw [if_neg h0]
    obtain ⟨x3, i3, h3, e3, a3, b3, c3, d3⟩ := spec_l1Below.ok' b i2 h2 l.length (by omega) hb c2 d2
    rw [e3]
    simp only [Option.bind_some]
    obtain ⟨x4, i4, h4, e4, a4, b4, c4, d4⟩ := spec_l1Below.ok' b i3 h3 9 (by omega) hb c3 d3
    rw [e4]
    simp only [Option.bind_some]
    by_cases s0 : x4 = 0
    · rw [if_pos s0]
      obtain ⟨x5, i5, h5, e5, a5, c5, d5⟩ := spec_l1Int.ok b i4 h4 [0, 100, 9223372036854775807] (by simp) hb c4 d4
      rw [e5]
      simp only [Option.bind_some]
      rw [if_pos a3, if_pos b3]
      exact ⟨_, _, _, rfl, by simpa using hl4, c5, d5⟩
    · rw [if_neg s0]
      by_cases s1 : x4 = 1
      · rw [if_pos s1]
        obtain ⟨x5, i5, h5, e5, a5, c5, d5⟩ := spec_l1Int.ok b i4 h4 [0, 100, 101] (by simp) hb c4 d4
        rw [e5]
        simp only [Option.bind_some]
        rw [if_pos a3, if_pos b3]
        exact ⟨_, _, _, rfl, by simpa using hl4, c5, d5⟩
      · rw [if_neg s1]
        by_cases s2 : x4 = 2
        · rw [if_pos s2]
          obtain ⟨x5, i5, h5, e5, a5, c5, d5⟩ := spec_l1Int.ok b i4 h4 [0, 4, 5] (by simp) hb c4 d4
          rw [e5]
          simp only [Option.bind_some]
          rw [if_pos a3, if_pos b3]
          exact ⟨_, _, _, rfl, by simpa using hl4, c5, d5⟩
        · rw [if_neg s2]
          by_cases s3 : x4 = 3
          · rw [if_pos s3]
            obtain ⟨x5, i5, h5, e5, a5, c5, d5⟩ := spec_l1Int.ok b i4 h4 [1, 2, 3] (by simp) hb c4 d4
            rw [e5]
            simp only [Option.bind_some]
            rw [if_pos a3, if_pos b3]
            exact ⟨_, _, _, rfl, by simpa using hl4, c5, d5⟩
          · rw [if_neg s3]
            exact ⟨_, _, _, rfl, hl4, c4, d4⟩
theorem drawWB (l0 : List Int) (hb : l0.length ≤ 1048576) (k : Nat) (hk : l0.length + 10 < k) : ∃ l b, spec_DrawWrittenBar.f k l0 = some (l, b) ∧ l.length ≤ 4 ∧ 0 ≤ b ∧ b < 30 := by
  unfold spec_DrawWrittenBar.f
  obtain ⟨h1, e1⟩ := spec_l1New.ok l0 (by omega) k (by omega)
  rw [e1]
  simp only [Option.bind_some]
  obtain ⟨l, i2, h2, e2, a2, c2, d2⟩ := drawAny l0 hb k (by omega) 0 h1 (by omega) (by omega)
  rw [e2]
  simp only [Option.bind_some]
  obtain ⟨x3, i3, h3, e3, a3, b3, c3, d3⟩ := spec_l1Below.ok' l0 i2 h2 30 (by omega) hb c2 d2
  rw [e3]
  simp only [Option.bind_some]
  exact ⟨_, _, rfl, a2, a3, b3⟩
theorem barsP_in (p : Int) : ∀ (d : Nat) (f : Int), ∀ x ∈ barsP p f d, (f ≤ x.f0 ∧ x.f0 < f + d) ∧ x.f1 = p := by
  intro d
  induction d with
  | zero => intro f x hx; simp [barsP] at hx
  | succ d ih =>
    intro f x hx
    simp only [barsP, List.mem_cons] at hx
    rcases hx with rfl | hx
    · exact ⟨by simp; omega, rfl⟩
    · have := ih (f + 1) x hx
      omega
theorem passesP_in (e : Sec) (he : okS e) : ∀ (d : Nat) (p : Int), 1 ≤ p → ∀ x ∈ passesP e p d, (1 ≤ x.f0 ∧ x.f0 ≤ 100) ∧ 1 ≤ x.f1 := by
  intro d
  induction d with
  | zero => intro p hp x hx; simp [passesP] at hx
  | succ d ih =>
    intro p hp x hx
    simp only [passesP, List.mem_append] at hx
    rcases hx with hx | hx
    · have := barsP_in p (nb e) e.f0 x hx
      have h2 := nb_le he
      unfold okS at he
      omega
    · exact ih (p + 1) (by omega) x hx
theorem unf_in (l : List Sec) (hl : ∀ x ∈ l, okS x) : ∀ x ∈ unf l, (1 ≤ x.f0 ∧ x.f0 ≤ 100) ∧ 1 ≤ x.f1 := by
  induction l with
  | nil => intro x hx; simp [unf] at hx
  | cons e l ih =>
    intro x hx
    simp only [unf, List.mem_append] at hx
    rcases hx with hx | hx
    · exact passesP_in e (hl e (by simp)) _ 1 (by omega) x hx
    · exact ih (fun y hy => hl y (by simp [hy])) x hx
theorem unfB_in (l : List Sec) : ∀ x ∈ unfB l, 1 ≤ x ∧ x ≤ 100 := by
  intro x hx
  unfold unfB at hx
  split at hx
  · rename_i h
    obtain ⟨_, hok, _⟩ := (isFormB_iff l).1 h
    obtain ⟨y, hy, rfl⟩ := List.mem_map.1 hx
    exact (unf_in l hok y hy).1
  · simp at hx
theorem firstT_le (bar : Int) : ∀ (u : List Int) (n m : Nat) (h : m < u.length), u[m] = bar → firstT bar n u ≤ n + m + 1 ∧ 0 < firstT bar n u := by
  intro u
  induction u with
  | nil => intro n m h; simp at h
  | cons b u ih =>
    intro n m h e
    unfold firstT
    by_cases c : b = bar
    · rw [if_pos c]
      omega
    · rw [if_neg c]
      cases m with
      | zero => exact absurd (by simpa using e) c
      | succ m =>
        have := ih (n + 1) m (by simpa using h) (by simpa using e)
        omega
theorem firstT_pos (bar : Int) : ∀ (u : List Int) (n : Nat), 0 < firstT bar n u ↔ 0 < u.countP (fun b => decide (b = bar)) := by
  intro u
  induction u with
  | nil => intro n; simp [firstT]
  | cons b u ih =>
    intro n
    unfold firstT
    by_cases c : b = bar
    · rw [if_pos c]
      simp [c]
    · rw [if_neg c, ih (n + 1)]
      simp [c]
theorem count_next (u : List Int) (n : Int) : u.countP (fun b => decide (b < n + 1)) = u.countP (fun b => decide (b < n)) + u.countP (fun b => decide (b = n)) := by
  induction u with
  | nil => simp
  | cons b u ih =>
    simp only [List.countP_cons, ih, decide_eq_true_eq]
    by_cases c : b < n
    · rw [if_pos (by omega), if_pos c, if_neg (by omega)]
      omega
    · by_cases c2 : b = n
      · rw [if_pos (by omega), if_neg c, if_pos c2]
        omega
      · rw [if_neg (by omega), if_neg c, if_neg c2]
        omega
theorem formsLoop (l : List Sec) : ∀ (d k n : Nat), 101 - n = d → n ≤ 101 → d + 7002 < k → laws_FnForms.l0 k l (unfB l) (((unfB l).countP (fun b => decide (b < (n : Int))) : Nat) : Int) (n : Int) = some true := by
  intro d
  have hul := unfB_length l
  induction d with
  | zero =>
    intro k n hd hn hk
    obtain ⟨k, rfl⟩ : ∃ m, k = m + 1 := ⟨k - 1, by omega⟩
    have e : (unfB l).countP (fun b => decide (b < (n : Int))) = (unfB l).length := by
      rw [List.countP_eq_length]
      intro x hx
      have := unfB_in l x hx
      simp
      omega
    simp only [laws_FnForms.l0]
    rw [if_neg (by omega), e, if_pos rfl, if_pos (by omega), impl_IsForm.ok l k (by omega)]
    simp only [Option.bind_some]
    by_cases h : isFormB l = true
    · rw [if_pos h]
    · rw [if_neg h]
      have : unfB l = [] := by unfold unfB; rw [if_neg h]
      rw [this]
      rfl
  | succ d ih =>
    intro k n hd hn hk
    obtain ⟨k, rfl⟩ : ∃ m, k = m + 1 := ⟨k - 1, by omega⟩
    have a1 : 101 - (n + 1) = d := by omega
    have a2 : n + 1 ≤ 101 := by omega
    have a3 : d + 7002 < k := by omega
    simp only [laws_FnForms.l0]
    rw [if_pos (by omega), impl_CountTimes.ok l _ k (by omega), impl_FirstTime.ok l _ k (by omega)]
    simp only [Option.bind_some]
    have hf := firstT_pos (n : Int) (unfB l) 0
    have e1 : decide ((((unfB l).countP (fun b => decide (b = (n : Int))) : Nat) : Int) > 0) = decide (firstT (n : Int) 0 (unfB l) > 0) := by
      apply decide_eq_decide.mpr
      omega
    have hc := count_next (unfB l) (n : Int)
    have h1 : (unfB l).countP (fun b => decide (b < (n : Int) + 1)) ≤ (unfB l).length := List.countP_le_length
    have e2 : wrap64 ((((unfB l).countP (fun b => decide (b < (n : Int))) : Nat) : Int) + (((unfB l).countP (fun b => decide (b = (n : Int))) : Nat) : Int)) = (((unfB l).countP (fun b => decide (b < ((n + 1 : Nat) : Int))) : Nat) : Int) := by
      have e3 : ((n + 1 : Nat) : Int) = (n : Int) + 1 := by omega
      rw [e3, hc, wid (by omega) (by omega)]
      omega
    have e4 : wrap64 ((n : Int) + 1) = ((n + 1 : Nat) : Int) := by unfold wrap64; omega
    have e0 : ∀ p : Bool, ¬ ((p != p) = true) := by intro p; cases p <;> decide
    rw [e1, if_neg (e0 _), e2, e4]
    exact ih k (n + 1) a1 a2 a3
theorem pure_FnForms (l0 : List Int) (hl : l0.length ≤ 9223372036854775807) (hg : ∀ x ∈ l0, (Lit.int .u8 x).wf = true) : ∃ k, laws_FnForms.f k l0 = some true := by
  by_cases hb : (l0.length : Int) > 1048576
  · refine ⟨0, ?_⟩
    unfold laws_FnForms.f laws_big.f
    simp [hb]
  · obtain ⟨K, hK⟩ : ∃ K : Nat, l0.length + 10000 ≤ K := ⟨_, Nat.le_refl _⟩
    refine ⟨K + 1, ?_⟩
    obtain ⟨l, b, e, h4, b0, b30⟩ := drawWB l0 (by omega) (K + 1) (by omega)
    unfold laws_FnForms.f laws_big.f
    simp only [Option.bind_some, hb, decide_false, Bool.false_eq_true, if_false]
    rw [e]
    simp only [Option.bind_some]
    rw [impl_Unfold.ok l _ (by omega), spec_Unfold.ok l (by omega) _ (by omega)]
    simp only [Option.bind_some, if_true]
    rw [impl_WrittenBar.ok l b _ (by omega)]
    simp only [Option.bind_some]
    have hul := unfB_length l
    have hw := playedB_bar l b
    have hJ : laws_FnForms.j0 (K + 1) l (unfB l) false = some true := by
      have := formsLoop l 100 K 1 (by omega) (by omega) (by omega)
      have e0 : (unfB l).countP (fun b => decide (b < ((1 : Nat) : Int))) = 0 := by
        rw [List.countP_eq_zero]
        intro x hx
        have := unfB_in l x hx
        simp
        omega
      rw [e0] at this
      exact this
    by_cases c : (1 : Int) ≤ b ∧ b ≤ (unfB l).length
    · rw [if_pos c] at hw
      have hlt : (b - 1).toNat < (unfB l).length := by omega
      have hg2 : (unfB l).getD (b - 1).toNat 0 = (unfB l)[(b - 1).toNat] := by rw [List.getD_eq_getElem?_getD, List.getElem?_eq_getElem hlt]; rfl
      rw [hg2] at hw
      have hin := unfB_in l _ (List.getElem_mem hlt)
      have ew : wrap64 (b - 1) = b - 1 := wid (by omega) (by omega)
      have er : rd (unfB l) (b - 1) = (playedB l b).f0 := by
        have e5 : rd (unfB l) (((b - 1).toNat : Nat) : Int) = (unfB l)[(b - 1).toNat] := rd_nat _ _ hlt
        rw [show (((b - 1).toNat : Nat) : Int) = b - 1 by omega] at e5
        rw [e5]
        exact hw.symm
      have hp1 : 1 ≤ (playedB l b).f1 := by
        have hf : isFormB l = true := by
          by_cases h : isFormB l = true
          · exact h
          · have : unfB l = [] := by unfold unfB; rw [if_neg h]
            rw [this] at hlt
            simp at hlt
        obtain ⟨_, hok, _⟩ := (isFormB_iff l).1 hf
        have hlu : (unfB l).length = (unf l).length := by unfold unfB; rw [if_pos hf]; simp
        have hlt' : (b - 1).toNat < (unf l).length := by omega
        unfold playedB
        rw [if_pos ⟨hf, by omega, by omega⟩]
        have : (unf l).getD (b - 1).toNat ⟨0, 0⟩ = (unf l)[(b - 1).toNat] := by rw [List.getD_eq_getElem?_getD, List.getElem?_eq_getElem hlt']; rfl
        rw [this]
        exact (unf_in l hok _ (List.getElem_mem hlt')).2
      have hf1 := firstT_le (playedB l b).f0 (unfB l) 0 (b - 1).toNat hlt hw.symm
      rw [if_pos (show b ≥ 1 by omega), if_neg (by rw [decide_eq_true (show (playedB l b).f0 > 0 by omega), decide_eq_true c.2]; simp), if_pos (show (playedB l b).f0 > 0 by omega), ew, if_pos (by omega), if_pos (by omega), if_pos er, impl_PassOf.ok l b _ (by omega)]
      simp only [Option.bind_some]
      rw [if_neg (by omega), impl_FirstTime.ok l _ _ (by omega)]
      simp only [Option.bind_some]
      rw [decide_eq_false (show ¬ firstT (playedB l b).f0 0 (unfB l) > b by omega)]
      exact hJ
    · rw [if_neg c] at hw
      rw [hw]
      by_cases c1 : b ≥ 1
      · rw [if_pos c1, if_neg (by rw [decide_eq_false (show ¬ b ≤ (unfB l).length by omega)]; simp), if_neg (by omega)]
        exact hJ
      · rw [if_neg c1, if_neg (by simp), if_neg (by omega)]
        exact hJ

end Go.Proofs.Ytiophiipmgpaeaa.Pure
