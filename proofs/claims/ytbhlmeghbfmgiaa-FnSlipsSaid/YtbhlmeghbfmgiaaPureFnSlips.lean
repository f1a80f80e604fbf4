/- The pure statement of FnSlips: over numbers and lists alone. -/
import Derived.Test.YtbhlmeghbfmgiaaSay
import Derived.Test.YtbhlmeghbfmgiaaSlips
import Derived.Test.YtbhlmeghbfmgiaaDraw
import Derived.Test.YtbhlmeghbfmgiaaF135
import Derived.Test.YtbhlmeghbfmgiaaF3
import Derived.Test.YtbhlmeghbfmgiaaF118
import Derived.Test.YtbhlmeghbfmgiaaF123
import Derived.Test.YtbhlmeghbfmgiaaF122
import Derived.Test.YtbhlmeghbfmgiaaF121
import Derived.Test.YtbhlmeghbfmgiaaF120
import Derived.Test.YtbhlmeghbfmgiaaF17
import Derived.Test.YtbhlmeghbfmgiaaF132
import Derived.Test.YtbhlmeghbfmgiaaF134
namespace Go.Proofs.Ytbhlmeghbfmgiaa.Pure
open Go.RowKit Go.Proofs.Ytbhlmeghbfmgiaa.F Go.Proofs.Ytbhlmeghbfmgiaa.Opened Go.Proofs.YtbhlmeghbfmgiaaW.PrintWords Go.Proofs.YtbhlmeghbfmgiaaW.PrintLast Go.Proofs.YtbhlmeghbfmgiaaW.PrintMore
set_option linter.unusedVariables false
set_option linter.unusedSimpArgs false

theorem drawP (b : List Int) (hb : b.length ≤ 1048576) : ∀ (d k : Nat) (acc : List Int) (i h : Int), 0 ≤ i → i ≤ b.length → d < k → acc.length + d ≤ 1000 → ∃ l i' h', spec_l15Pitches.l0 k acc (d : Int) b i h = some (l, i', h') ∧ l.length = acc.length + d ∧ 0 ≤ i' ∧ i' ≤ b.length := by
  intro d
  induction d with
  | zero =>
    intro k acc i h hi hi' hk ha
    obtain ⟨k, rfl⟩ : ∃ m, k = m + 1 := ⟨k - 1, by omega⟩
    simp only [spec_l15Pitches.l0]
    rw [if_neg (by omega)]
    exact ⟨_, _, _, rfl, by omega, hi, hi'⟩
  | succ d ih =>
    intro k acc i h hi hi' hk ha
    obtain ⟨k, rfl⟩ : ∃ m, k = m + 1 := ⟨k - 1, by omega⟩
    simp only [spec_l15Pitches.l0]
    rw [if_pos (by omega)]
    obtain ⟨x1, i1, h1, e1, a1, b1, c1, d1⟩ := spec_l1Below.ok' b i h 6 (by omega) hb hi hi'
    rw [e1]
    simp only [Option.bind_some]
    have e : wrap64 (((d + 1 : Nat) : Int) - 1) = (d : Int) := by unfold wrap64; omega
    rw [if_pos (by omega), e]
    obtain ⟨l, i', h', e4, a4, b4, c4⟩ := ih k (acc ++ [wrap64 (60 + x1)]) i1 h1 c1 d1 (by omega) (by simp; omega)
    refine ⟨l, i', h', e4, ?_, b4, c4⟩
    rw [a4]
    simp
    omega
theorem drawPs (b : List Int) (hb : b.length ≤ 1048576) (k : Nat) (hk : 20 < k) (i h : Int) (hi : 0 ≤ i) (hi' : i ≤ b.length) : ∃ l i' h', spec_l15Pitches.f k b i h 14 = some (l, i', h') ∧ l.length ≤ 13 ∧ 0 ≤ i' ∧ i' ≤ b.length := by
  unfold spec_l15Pitches.f
  obtain ⟨x1, i1, h1, e1, a1, b1, c1, d1⟩ := spec_l1Below.ok' b i h 14 (by omega) hb hi hi'
  rw [e1]
  simp only [Option.bind_some]
  obtain ⟨m, rfl⟩ := Int.eq_ofNat_of_zero_le a1
  obtain ⟨l, i', h', e4, a4, b4, c4⟩ := drawP b hb m k [] i1 h1 c1 d1 (by omega) (by simp; omega)
  exact ⟨l, i', h', e4, by simp at a4; omega, b4, c4⟩
theorem drawS (b : List Int) (n : Int) (hb : b.length ≤ 1048576) : ∀ (d k : Nat) (acc : List Slp) (a i h : Int), 0 ≤ i → i ≤ b.length → 2 * d + 2 < k → a = (d : Int) - 1 → acc.length + d ≤ 1000 → ∃ l i' h', spec_l15Draw.l0 k n acc a b i h = some (l, i', h') ∧ l.length ≤ acc.length + d ∧ 0 ≤ i' ∧ i' ≤ b.length := by
  intro d
  induction d with
  | zero =>
    intro k acc a i h hi hi' hk ha hl
    obtain ⟨k, rfl⟩ : ∃ m, k = m + 1 := ⟨k - 1, by omega⟩
    simp only [spec_l15Draw.l0]
    rw [if_neg (by omega)]
    exact ⟨_, _, _, rfl, by omega, hi, hi'⟩
  | succ d ih =>
    intro k acc a i h hi hi' hk ha hl
    obtain ⟨k, rfl⟩ : ∃ m, k = m + 2 := ⟨k - 2, by omega⟩
    have e : wrap64 (a - 1) = a - 1 := by unfold wrap64; omega
    have step : ∀ (acc' : List Slp) (i h : Int), 0 ≤ i → i ≤ b.length → acc'.length ≤ acc.length + 1 → ∃ l i' h', spec_l15Draw.l0 k n acc' (wrap64 (a - 1)) b i h = some (l, i', h') ∧ l.length ≤ acc.length + (d + 1) ∧ 0 ≤ i' ∧ i' ≤ b.length := by
      intro acc' i h hi hi' hle
      rw [e]
      obtain ⟨l, i', h', e4, a4, b4, c4⟩ := ih k acc' (a - 1) i h hi hi' (by omega) (by omega) (by omega)
      exact ⟨l, i', h', e4, by omega, b4, c4⟩
    have J : ∀ (q : Bool) (i h : Int), 0 ≤ i → i ≤ b.length → ∃ l i' h', spec_l15Draw.j1 (k + 1) n acc a q b i h = some (l, i', h') ∧ l.length ≤ acc.length + (d + 1) ∧ 0 ≤ i' ∧ i' ≤ b.length := by
      intro q i h hi hi'
      simp only [spec_l15Draw.j1]
      by_cases hq : q = true
      · rw [if_pos hq]
        exact step acc i h hi hi' (by omega)
      · rw [if_neg hq]
        obtain ⟨x1, i1, h1, e1, a1, b1, c1, d1⟩ := spec_l1Below.ok' b i h 3 (by omega) hb hi hi'
        rw [e1]
        simp only [Option.bind_some]
        obtain ⟨x2, i2, h2, e2, a2, b2, c2, d2⟩ := spec_l1Below.ok' b i1 h1 6 (by omega) hb c1 d1
        rw [e2]
        simp only [Option.bind_some]
        have hlt : acc.length < 5864062014805 := by omega
        by_cases q1 : a = n
        · rw [if_pos q1]
          rw [if_neg (by decide), if_pos hlt]
          exact step _ i2 h2 c2 d2 (by simp)
        · rw [if_neg q1]
          by_cases q2 : wrap64 (1 + x1) = 2
          · rw [if_pos q2, if_pos hlt]
            exact step _ i2 h2 c2 d2 (by simp)
          · rw [if_neg q2, if_pos hlt]
            exact step _ i2 h2 c2 d2 (by simp)
    simp only [spec_l15Draw.l0, spec_l1Once.f]
    rw [if_pos (by omega)]
    obtain ⟨x1, i1, h1, e1, a1, b1, c1, d1⟩ := spec_l1Below.ok' b i h 4 (by omega) hb hi hi'
    rw [e1]
    simp only [Option.bind_some]
    split
    · exact J _ i1 h1 c1 d1
    · exact J _ i1 h1 c1 d1
theorem drawSs (b : List Int) (n : Nat) (hn : n ≤ 13) (hb : b.length ≤ 1048576) (k : Nat) (hk : 60 < k) (i h : Int) (hi : 0 ≤ i) (hi' : i ≤ b.length) : ∃ l i' h', spec_l15Any.f k b i h (n : Int) = some (l, i', h') ∧ l.length ≤ 14 ∧ 0 ≤ i' ∧ i' ≤ b.length := by
  unfold spec_l15Any.f spec_l15Draw.f
  obtain ⟨l, i2, h2, e2, a2, c2, d2⟩ := drawS b n hb (n + 1) k [] n i h hi hi' (by omega) (by omega) (by simp; omega)
  rw [e2]
  simp only [Option.bind_some]
  simp only [List.length_nil] at a2
  by_cases h0 : (l.length : Int) = 0
  · rw [if_pos h0]
    exact ⟨_, _, _, rfl, by omega, c2, d2⟩
  · rw [if_neg h0]
    obtain ⟨x3, i3, h3, e3, a3, b3, c3, d3⟩ := spec_l1Below.ok' b i2 h2 l.length (by omega) hb c2 d2
    rw [e3]
    simp only [Option.bind_some]
    obtain ⟨x4, i4, h4, e4, a4, b4, c4, d4⟩ := spec_l1Below.ok' b i3 h3 9 (by omega) hb c3 d3
    rw [e4]
    simp only [Option.bind_some]
    by_cases s0 : x4 = 0
    · rw [if_pos s0]
      obtain ⟨x5, i5, h5, e5, a5, c5, d5⟩ := spec_l1Int.ok b i4 h4 [0, 4, 2] (by simp) hb c4 d4
      rw [e5]
      simp only [Option.bind_some]
      rw [if_pos a3, if_pos b3]
      exact ⟨_, _, _, rfl, by simp; omega, c5, d5⟩
    · rw [if_neg s0]
      by_cases s1 : x4 = 1
      · rw [if_pos s1]
        obtain ⟨x5, i5, h5, e5, a5, c5, d5⟩ := spec_l1Int.ok b i4 h4 [-1, (n : Int), wrap64 ((n : Int) + 1)] (by simp) hb c4 d4
        rw [e5]
        simp only [Option.bind_some]
        rw [if_pos a3, if_pos b3]
        exact ⟨_, _, _, rfl, by simp; omega, c5, d5⟩
      · rw [if_neg s1]
        by_cases s2 : x4 = 2
        · rw [if_pos s2]
          obtain ⟨x5, i5, h5, e5, a5, c5, d5⟩ := spec_l1Int.ok b i4 h4 [-1, 127, 128] (by simp) hb c4 d4
          rw [e5]
          simp only [Option.bind_some]
          rw [if_pos a3, if_pos b3]
          exact ⟨_, _, _, rfl, by simp; omega, c5, d5⟩
        · rw [if_neg s2]
          exact ⟨_, _, _, rfl, by omega, c4, d4⟩
/-- How a slip changes the length. -/
def dl (e : Slp) : Int := if e.f0 = 2 then -1 else if e.f0 = 3 then 1 else 0
def dls : List Slp → Int
  | [] => 0
  | e :: l => dl e + dls l
theorem dls_bound : ∀ l : List Slp, -(l.length : Int) ≤ dls l ∧ dls l ≤ l.length
  | [] => by simp [dls]
  | e :: l => by
    have := dls_bound l
    unfold dls dl
    simp only [List.length_cons]
    split
    · omega
    · split <;> omega
theorem errLoop (a : Int) (l : List Slp) (hm : l.length ≤ 100) : ∀ (d k : Nat) (xs : List Int) (n : Nat) (q : Option Slp), slB a q (l.drop n) = true → (∀ p, q = some p → p.f1 ≤ xs.length) → (q = none → a = xs.length) → xs.length + d ≤ 1000 → l.length - n ≤ d → d < k → ∃ ys, impl_ErrBy.l0 k xs l l.length (n : Int) = some (ys, true) ∧ (ys.length : Int) = xs.length + dls (l.drop n) := by
  intro d
  induction d with
  | zero =>
    intro k xs n q hq hp ha hx hd hk
    obtain ⟨k, rfl⟩ : ∃ m, k = m + 1 := ⟨k - 1, by omega⟩
    simp only [impl_ErrBy.l0]
    rw [if_neg (by omega), List.drop_of_length_le (by omega)]
    exact ⟨xs, rfl, by simp [dls]⟩
  | succ d ih =>
    intro k xs n q hq hp ha hx hd hk
    obtain ⟨k, rfl⟩ : ∃ m, k = m + 1 := ⟨k - 1, by omega⟩
    simp only [impl_ErrBy.l0]
    by_cases h : n < l.length
    · rw [List.drop_eq_getElem_cons h] at hq ⊢
      simp only [slB, Bool.and_eq_true] at hq
      obtain ⟨hst, hrest⟩ := hq
      rw [if_pos (by omega), if_pos (by omega), if_pos (by omega), rdT63 l n h, w1 h (by omega)]
      simp only [dls]
      have hin : 0 ≤ l[n].f1 ∧ l[n].f1 ≤ xs.length ∧ (l[n].f0 ≠ 3 → l[n].f1 < xs.length) ∧ 1 ≤ l[n].f0 ∧ l[n].f0 ≤ 3 := by
        unfold stepS mo gtS at hst
        simp only [Bool.and_eq_true, decide_eq_true_eq] at hst
        obtain ⟨h1, h2, h3, h4, h5⟩ := hst
        cases q with
        | none =>
          have := ha rfl
          by_cases c3 : l[n].f0 = 3
          · rw [if_pos c3] at h2
            omega
          · rw [if_neg c3] at h2
            omega
        | some p =>
          have := hp p rfl
          simp only [decide_eq_true_eq] at h5
          omega
      obtain ⟨i0, i1, i2, i3, i4⟩ := hin
      obtain ⟨m, hm1⟩ := Int.eq_ofNat_of_zero_le i0
      by_cases c1 : l[n].f0 = 1
      · have := i2 (by omega)
        rw [if_pos c1, if_pos i0, if_pos this]
        obtain ⟨ys, e1, e2⟩ := ih k (xs.set l[n].f1.toNat l[n].f2) (n + 1) (some l[n]) hrest (fun p hp => by cases hp; rw [List.length_set]; omega) (fun h => by cases h) (by rw [List.length_set]; omega) (by omega) (by omega)
        refine ⟨ys, e1, ?_⟩
        rw [e2, List.length_set]
        unfold dl
        rw [if_neg (by omega), if_neg (by omega)]
        omega
      · rw [if_neg c1]
        by_cases c2 : l[n].f0 = 2
        · have h3 := i2 (by omega)
          rw [if_pos c2]
          unfold delI
          rw [if_pos ⟨i0, h3⟩]
          simp only [Option.bind_some]
          have hlen : (xs.take l[n].f1.toNat ++ xs.drop (l[n].f1.toNat + 1)).length = xs.length - 1 := by
            rw [List.length_append, List.length_take, List.length_drop]
            omega
          obtain ⟨ys, e1, e2⟩ := ih k (xs.take l[n].f1.toNat ++ xs.drop (l[n].f1.toNat + 1)) (n + 1) (some l[n]) hrest (fun p hp => by cases hp; omega) (fun h => by cases h) (by omega) (by omega) (by omega)
          refine ⟨ys, e1, ?_⟩
          rw [e2, hlen]
          unfold dl
          rw [if_pos c2]
          omega
        · rw [if_neg c2]
          unfold insI
          rw [if_pos ⟨⟨i0, i1⟩, by omega⟩]
          simp only [Option.bind_some]
          have hlen : (xs.take l[n].f1.toNat ++ [l[n].f2] ++ xs.drop l[n].f1.toNat).length = xs.length + 1 := by
            rw [List.length_append, List.length_append, List.length_take, List.length_drop]
            simp
            omega
          obtain ⟨ys, e1, e2⟩ := ih k (xs.take l[n].f1.toNat ++ [l[n].f2] ++ xs.drop l[n].f1.toNat) (n + 1) (some l[n]) hrest (fun p hp => by cases hp; omega) (fun h => by cases h) (by omega) (by omega) (by omega)
          refine ⟨ys, e1, ?_⟩
          rw [e2, hlen]
          unfold dl
          rw [if_neg c2, if_pos (by omega)]
          omega
    · rw [if_neg (by omega), List.drop_of_length_le (by omega)]
      exact ⟨xs, rfl, by simp [dls]⟩
theorem sameLoop (x : List Int) (hm : x.length ≤ 100000) : ∀ (d k n : Nat), x.length - n ≤ d → d < k → laws_sameInts.l0 k x x (n : Int) = some true := by
  intro d
  induction d with
  | zero =>
    intro k n hd hk
    obtain ⟨k, rfl⟩ : ∃ m, k = m + 1 := ⟨k - 1, by omega⟩
    simp only [laws_sameInts.l0]
    rw [if_neg (by omega)]
  | succ d ih =>
    intro k n hd hk
    obtain ⟨k, rfl⟩ : ∃ m, k = m + 1 := ⟨k - 1, by omega⟩
    simp only [laws_sameInts.l0]
    by_cases h : n < x.length
    · rw [if_pos (by omega), if_pos (by omega), if_pos (by omega), if_pos trivial, w1 h (by omega)]
      exact ih k (n + 1) (by omega) (by omega)
    · rw [if_neg (by omega)]
theorem sameOk (x : List Int) (hm : x.length ≤ 100000) (k : Nat) (hk : x.length < k) : laws_sameInts.f k x x = some true := by
  unfold laws_sameInts.f
  rw [if_pos rfl]
  exact sameLoop x hm x.length k 0 (by omega) hk
theorem kindOk (a : Int) (h : 1 ≤ a ∧ a ≤ 3) : ∃ s, impl_KindName.f a = some s ∧ ¬ s.toList = ([] : List UInt8) := by
  have h' : a = 1 ∨ a = 2 ∨ a = 3 := by omega
  rcases h' with rfl | rfl | rfl
  · exact ⟨(⟨#[119, 114, 111, 110, 103]⟩ : ByteArray), by first | decide +kernel | (unfold impl_KindName.f impl_InRange.f; decide +kernel) | kernel_rfl, by decide +kernel⟩
  · exact ⟨(⟨#[109, 105, 115, 115, 105, 110, 103]⟩ : ByteArray), by first | decide +kernel | (unfold impl_KindName.f impl_InRange.f; decide +kernel) | kernel_rfl, by decide +kernel⟩
  · exact ⟨(⟨#[101, 120, 116, 114, 97]⟩ : ByteArray), by first | decide +kernel | (unfold impl_KindName.f impl_InRange.f; decide +kernel) | kernel_rfl, by decide +kernel⟩
theorem cntR_le (ps : List Int) : ∀ (l : List Slp) (c : Int), 0 ≤ c → c + l.length ≤ 1000000 → 0 ≤ cntR ps c l ∧ cntR ps c l ≤ c + l.length
  | [], c, h0, h1 => by simp [cntR]; exact h0
  | e :: l, c, h0, h1 => by
    simp only [cntR, List.length_cons] at h1 ⊢
    by_cases q : e.f0 = 1 ∧ rd ps e.f1 = e.f2
    · rw [if_pos q]
      have := cntR_le ps l c h0 (by omega)
      omega
    · rw [if_neg q]
      have e : wrap64 (c + 1) = c + 1 := by unfold wrap64; omega
      rw [e]
      have := cntR_le ps l (c + 1) (by omega) (by omega)
      omega
theorem lawLoop (p : List Int) (l : List Slp) (y : List Int) (hm : l.length ≤ 100) (hp : p.length ≤ 100) (hs : isSlipsB l p.length = true) (hy : (y.length : Int) = p.length + dls l) (h0 : l = [] → y = p) : ∀ (d k : Nat) (c : Int) (n : Nat) (q : Option Slp), slB p.length q (l.drop n) = true → c + dls (l.drop n) = y.length → -1000 ≤ c → c ≤ 1000 + n → l.length - n ≤ d → n ≤ l.length → d + 2 * l.length + y.length + 10 < k → laws_FnSlips.l0 k p l y c (n : Int) = some true := by
  intro d
  have hend : ∀ (k : Nat) (c : Int) (n : Nat), l.length ≤ n → c + dls (l.drop n) = y.length → 2 * l.length + y.length + 9 < k → laws_FnSlips.l0 (k + 1) p l y c (n : Int) = some true := by
    intro k c n hn hc hk
    rw [List.drop_of_length_le hn] at hc
    simp only [dls, Int.add_zero] at hc
    simp only [laws_FnSlips.l0]
    rw [if_neg (by omega), if_pos hc.symm, impl_CountReal.ok p l (by omega) k (by omega)]
    simp only [Option.bind_some]
    have hcr : countReal p l ≤ l.length := by
      unfold countReal
      rw [if_pos hs]
      have := cntR_le p l 0 (by omega) (by omega)
      omega
    rw [if_pos hcr]
    by_cases hl : (l.length : Int) > 0
    · rw [if_pos hl]
    · rw [if_neg hl, h0 (List.eq_nil_of_length_eq_zero (by omega)), sameOk p (by omega) k (by
        have := h0 (List.eq_nil_of_length_eq_zero (by omega))
        rw [this] at hk
        omega)]
      rfl
  induction d with
  | zero =>
    intro k c n q hq hc c0 c1 hd hn hk
    obtain ⟨k, rfl⟩ : ∃ m, k = m + 1 := ⟨k - 1, by omega⟩
    exact hend k c n (by omega) hc (by omega)
  | succ d ih =>
    intro k c n q hq hc c0 c1 hd hn hk
    obtain ⟨k, rfl⟩ : ∃ m, k = m + 1 := ⟨k - 1, by omega⟩
    by_cases h : n < l.length
    · rw [List.drop_eq_getElem_cons h] at hq hc
      simp only [slB, Bool.and_eq_true] at hq
      simp only [dls] at hc
      obtain ⟨hst, hrest⟩ := hq
      have hk1 : 1 ≤ l[n].f0 ∧ l[n].f0 ≤ 3 := by
        unfold stepS at hst
        simp only [Bool.and_eq_true, decide_eq_true_eq] at hst
        exact hst.1
      obtain ⟨s, es, en⟩ := kindOk _ hk1
      have hb := dls_bound (l.drop (n + 1))
      rw [List.length_drop] at hb
      simp only [laws_FnSlips.l0]
      rw [if_pos (by omega), if_pos (by omega), rdT63 l n h, es]
      simp only [Option.bind_some]
      rw [if_neg en, w1 h (by omega)]
      unfold dl at hc
      by_cases c2 : l[n].f0 = 2
      · rw [if_pos c2] at hc ⊢
        rw [if_neg (by omega)]
        have e : wrap64 (c - 1) = c - 1 := by unfold wrap64; omega
        rw [e]
        exact ih k (c - 1) (n + 1) _ hrest (by omega) (by omega) (by omega) (by omega) (by omega) (by omega)
      · rw [if_neg c2] at hc ⊢
        by_cases c3 : l[n].f0 = 3
        · rw [if_pos c3] at hc ⊢
          have e : wrap64 (c + 1) = c + 1 := by unfold wrap64; omega
          rw [e]
          exact ih k (c + 1) (n + 1) _ hrest (by omega) (by omega) (by omega) (by omega) (by omega) (by omega)
        · rw [if_neg c3] at hc ⊢
          exact ih k c (n + 1) _ hrest (by omega) (by omega) (by omega) (by omega) (by omega) (by omega)
    · exact hend k c n (by omega) hc (by omega)

theorem errNil (p : List Int) (k : Nat) (hk : 0 < k) : impl_ErrBy.l0 k p [] 0 0 = some (p, true) := by
  obtain ⟨k, rfl⟩ : ∃ m, k = m + 1 := ⟨k - 1, by omega⟩
  simp only [impl_ErrBy.l0]
  rw [if_neg (by omega)]
theorem pure_FnSlips (b : List Int) (hl : b.length ≤ 9223372036854775807) (hg : ∀ x ∈ b, (Lit.int .u8 x).wf = true) : ∃ k, laws_FnSlips.f k b = some true := by
  by_cases hbig : 1048576 < b.length
  · refine ⟨0, ?_⟩
    unfold laws_FnSlips.f laws_big.f
    simp only [Option.bind_some]
    rw [if_pos (by simp; omega)]
  have hb : b.length ≤ 1048576 := by omega
  obtain ⟨K, hK⟩ : ∃ K : Nat, b.length + 2000 ≤ K := ⟨_, Nat.le_refl _⟩
  refine ⟨K, ?_⟩
  unfold laws_FnSlips.f laws_big.f spec_DrawErrBy.f
  simp only [Option.bind_some]
  rw [if_neg (by simp; omega)]
  obtain ⟨h0, e0⟩ := spec_l1New.ok b hl K (by omega)
  rw [e0]
  simp only [Option.bind_some]
  obtain ⟨p, i1, h1, e1, a1, c1, d1⟩ := drawPs b hb K (by omega) 0 h0 (by omega) (by omega)
  rw [e1]
  simp only [Option.bind_some]
  obtain ⟨l, i2, h2, e2, a2, c2, d2⟩ := drawSs b p.length a1 hb K (by omega) i1 h1 c1 d1
  rw [e2]
  simp only [Option.bind_some]
  have hcl : impl_clone_int.f p = some p := by
    unfold impl_clone_int.f
    simp only [Option.bind_some, List.length_nil, List.nil_append]
    rw [if_pos (by omega)]
  unfold impl_ErrBy.f
  rw [hcl]
  simp only [Option.bind_some]
  rw [impl_AreSlips.ok l p.length (by omega) _ (by omega)]
  simp only [Option.bind_some]
  by_cases hs : isSlipsB l p.length = true
  · rw [if_pos hs]
    have hs' := hs
    unfold isSlipsB at hs'
    simp only [Bool.and_eq_true] at hs'
    obtain ⟨y, e3, e4⟩ := errLoop p.length l (by omega) l.length K p 0 none hs'.2.1 (fun p h => by cases h) (fun _ => rfl) (by omega) (by omega) (by omega)
    simp only [List.drop_zero] at e4
    have e3' : impl_ErrBy.l0 K p l (l.length : Int) 0 = some (y, true) := e3
    rw [e3']
    simp only [Option.bind_some, if_true]
    have hb2 := dls_bound l
    have h00 : l = [] → y = p := by
      rintro rfl
      have e5 := errNil p K (by omega)
      rw [List.length_nil, show ((0 : Nat) : Int) = 0 from rfl, e5] at e3'
      exact (Prod.mk.inj (Option.some.inj e3')).1.symm
    exact lawLoop p l y (by omega) (by omega) hs e4 h00 l.length K p.length 0 none hs'.2.1 (by simp only [List.drop_zero]; omega) (by omega) (by omega) (by omega) (by omega) (by omega)
  · rw [if_neg hs]
    simp only [Option.bind_some, Bool.false_eq_true, if_false]
    rw [sameOk p (by omega) _ (by omega)]
    simp only [Option.bind_some, if_true]
    rw [impl_CountReal.ok p l (by omega) _ (by omega)]
    unfold countReal
    rw [if_neg hs]
    rfl

end Go.Proofs.Ytbhlmeghbfmgiaa.Pure
