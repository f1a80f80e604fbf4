/- FnKeys, part 4 of 4: texts of the claim, joined into one file. -/
import Derived.Test.YtiophiipmgpaeaaZFnKeys3
import Derived.Test.YtiophiipmgpaeaaRows
import Derived.WalkKit
import Derived.ProofKit
import Derived.OpenShut
import Derived.ShutString
import Derived.ChangeOld
import Derived.Below
import Derived.Carry
import Derived.SizedLaws
import Derived.Lib.SmallJoins

namespace Go.Proofs.Ytiophiipmgpaeaa.F
open Go.RowKit Go.Proofs.Ytiophiipmgpaeaa.Opened Go.Proofs.YtiophiipmgpaeaaW.PrintWords Go.Proofs.YtiophiipmgpaeaaW.PrintLast Go.Proofs.YtiophiipmgpaeaaW.PrintMore
set_option linter.unusedVariables false
set_option linter.unusedSimpArgs false
theorem and255 (x : Int) : 0 ≤ Go.bits .and .i64 x 255 ∧ Go.bits .and .i64 x 255 ≤ 255 := by
  have h : (BitVec.ofInt 64 x &&& BitVec.ofInt 64 255).toNat ≤ 255 := by
    rw [BitVec.toNat_and]
    exact Nat.le_trans Nat.and_le_right (by decide)
  have e : Go.bits .and .i64 x 255 = IntKind.i64.wrap (((BitVec.ofInt 64 x &&& BitVec.ofInt 64 255).toNat : Nat) : Int) := rfl
  rw [e]
  generalize (BitVec.ofInt 64 x &&& BitVec.ofInt 64 255).toNat = n at h
  rw [IntKind.wrap_i64]
  omega
theorem spec_l1New.loop (l : List Int) (hm : l.length ≤ 9223372036854775807) : ∀ (d k n : Nat) (h : Int), l.length - n ≤ d → d < k → ∃ h', spec_l1New.l0 k l h (n : Int) = some (l, 0, h') := by
  intro d
  induction d with
  | zero =>
    intro k n h hd hk
    obtain ⟨k, rfl⟩ : ∃ m, k = m + 1 := ⟨k - 1, by omega⟩
    simp only [spec_l1New.l0]
    rw [if_neg (by omega)]
    exact ⟨h, rfl⟩
  | succ d ih =>
    intro k n h hd hk
    obtain ⟨k, rfl⟩ : ∃ m, k = m + 1 := ⟨k - 1, by omega⟩
    simp only [spec_l1New.l0]
    by_cases c : n < l.length
    · rw [if_pos (by omega)]
      by_cases c2 : (n : Int) < 4000
      · rw [if_pos c2, if_pos (by omega), w1 c hm]
        exact ih k (n + 1) _ (by omega) (by omega)
      · rw [if_neg c2]
        exact ⟨h, rfl⟩
    · rw [if_neg (by omega)]
      exact ⟨h, rfl⟩
theorem spec_l1New.ok (l : List Int) (hm : l.length ≤ 9223372036854775807) (k : Nat) (hk : l.length < k) : ∃ h', spec_l1New.f k l = some (l, 0, h') := by
  unfold spec_l1New.f
  exact spec_l1New.loop l hm l.length k 0 _ (by omega) hk
theorem spec_l1Byte.ok (b : List Int) (i h : Int) (hb : b.length ≤ 1048576) (hi : 0 ≤ i) (hi' : i ≤ b.length) : ∃ x i' h', spec_l1Byte.f b i h = some (x, i', h') ∧ (0 ≤ x ∧ x ≤ 255) ∧ 0 ≤ i' ∧ i' ≤ b.length := by
  unfold spec_l1Byte.f
  by_cases c : i < (b.length : Int)
  · rw [if_pos c, if_pos hi]
    have e : wrap64 (i + 1) = i + 1 := wid (by omega) (by omega)
    exact ⟨_, _, _, rfl, and255 _, by omega, by omega⟩
  · rw [if_neg c]
    exact ⟨_, _, _, rfl, and255 _, by omega, by omega⟩
theorem tmodR (x n : Int) (hx : 0 ≤ x) (hn : 0 < n) : 0 ≤ Int.tmod x n ∧ Int.tmod x n < n := by
  rw [Int.tmod_eq_emod_of_nonneg hx]
  exact ⟨Int.emod_nonneg _ (by omega), Int.emod_lt_of_pos _ hn⟩
theorem spec_l1Below.ok (b : List Int) (i h n : Int) (hb : b.length ≤ 1048576) (hi : 0 ≤ i) (hi' : i ≤ b.length) : ∃ x i' h', spec_l1Below.f b i h n = some (x, i', h') ∧ 0 ≤ x ∧ (x < n ∨ (n ≤ 0 ∧ x = 0)) ∧ 0 ≤ i' ∧ i' ≤ b.length := by
  unfold spec_l1Below.f
  by_cases c : n ≤ 0
  · rw [if_pos c]
    exact ⟨_, _, _, rfl, by omega, by omega, hi, hi'⟩
  · rw [if_neg c]
    obtain ⟨x, i1, h1, e1, bx, j1, j1'⟩ := spec_l1Byte.ok b i h hb hi hi'
    rw [e1]
    simp only [Option.bind_some]
    rw [if_neg (show ¬ n = 0 by omega)]
    by_cases c2 : n ≤ 256
    · rw [if_pos c2]
      have := tmodR x n (by omega) (by omega)
      exact ⟨_, _, _, rfl, by omega, by omega, j1, j1'⟩
    · rw [if_neg c2]
      obtain ⟨y, i2, h2, e2, by_, j2, j2'⟩ := spec_l1Byte.ok b i1 h1 hb j1 j1'
      rw [e2]
      simp only [Option.bind_some]
      obtain ⟨z, i3, h3, e3, bz, j3, j3'⟩ := spec_l1Byte.ok b i2 h2 hb j2 j2'
      rw [e3]
      simp only [Option.bind_some]
      rw [if_neg (show ¬ n = 0 by omega)]
      have e : wrap64 (wrap64 (wrap64 (x * 65536) + wrap64 (y * 256)) + z) = x * 65536 + y * 256 + z := by unfold wrap64; omega
      have := tmodR (x * 65536 + y * 256 + z) n (by omega) (by omega)
      rw [e]
      exact ⟨_, _, _, rfl, by omega, by omega, j3, j3'⟩
theorem spec_l1Below.ok' (b : List Int) (i h n : Int) (hn : 0 < n) (hb : b.length ≤ 1048576) (hi : 0 ≤ i) (hi' : i ≤ b.length) : ∃ x i' h', spec_l1Below.f b i h n = some (x, i', h') ∧ 0 ≤ x ∧ x < n ∧ 0 ≤ i' ∧ i' ≤ b.length := by
  obtain ⟨x, i', h', e, a1, a2, a3, a4⟩ := spec_l1Below.ok b i h n hb hi hi'
  exact ⟨x, i', h', e, a1, by omega, a3, a4⟩
theorem spec_l1Int.ok (b : List Int) (i h : Int) (l : List Int) (hl : 0 < l.length) (hb : b.length ≤ 1048576) (hi : 0 ≤ i) (hi' : i ≤ b.length) : ∃ x i' h', spec_l1Int.f b i h l = some (x, i', h') ∧ x ∈ l ∧ 0 ≤ i' ∧ i' ≤ b.length := by
  unfold spec_l1Int.f
  obtain ⟨x, i', h', e, a1, a2, a3, a4⟩ := spec_l1Below.ok' b i h l.length (by omega) hb hi hi'
  rw [e]
  simp only [Option.bind_some]
  rw [if_pos a1, if_pos a2]
  refine ⟨_, _, _, rfl, ?_, a3, a4⟩
  obtain ⟨m, rfl⟩ := Int.eq_ofNat_of_zero_le a1
  rw [rd_nat l m (by omega)]
  exact List.getElem_mem _
end Go.Proofs.Ytiophiipmgpaeaa.F

namespace Go.Proofs.Ytiophiipmgpaeaa.F
open Go.RowKit Go.Proofs.Ytiophiipmgpaeaa.Opened Go.Proofs.YtiophiipmgpaeaaW.PrintWords Go.Proofs.YtiophiipmgpaeaaW.PrintLast Go.Proofs.YtiophiipmgpaeaaW.PrintMore
set_option linter.unusedVariables false
set_option linter.unusedSimpArgs false
theorem altI_cases (q : Int → Int → Int → Bool) (o s : Int) (d : NoteR) : ∀ (n : Nat) (a : Int), (altI q o s n a d = d ∧ ∀ b, a ≤ b → b < a + n → (isNoteI s b o && q s b o) = false) ∨ (∃ b, altI q o s n a d = (s, b, o, true) ∧ isNoteI s b o = true ∧ q s b o = true)
  | 0, a => Or.inl ⟨rfl, fun b h1 h2 => by omega⟩
  | n + 1, a => by
    by_cases c : (isNoteI s a o && q s a o) = true
    · refine Or.inr ⟨a, by rw [altI, if_pos c], ?_⟩
      rw [Bool.and_eq_true] at c
      exact c
    · have e : altI q o s (n + 1) a d = altI q o s n (a + 1) d := by rw [altI, if_neg c]
      rw [e]
      rcases altI_cases q o s d n (a + 1) with ⟨h1, h2⟩ | h
      · refine Or.inl ⟨h1, fun b b1 b2 => ?_⟩
        by_cases hb : b = a
        · subst hb
          simpa using c
        · exact h2 b (by omega) (by omega)
      · exact Or.inr h
theorem isNoteI_small {s a o : Int} (h : isNoteI s a o = true) : (0 ≤ s ∧ s ≤ 6) ∧ (-2 ≤ a ∧ a ≤ 2) ∧ (0 ≤ o ∧ o ≤ 8) ∧ (12 ≤ pitI s a o ∧ pitI s a o ≤ 120) := by
  unfold isNoteI at h
  simp only [Bool.and_eq_true, decide_eq_true_eq] at h
  exact h
theorem stepI_cases (q : Int → Int → Int → Bool) (o : Int) (d : NoteR) : ∀ (n : Nat) (s : Int), (stepI q o n s d = d ∧ ∀ t b, s ≤ t → t < s + n → (isNoteI t b o && q t b o) = false) ∨ (∃ t b, stepI q o n s d = (t, b, o, true) ∧ isNoteI t b o = true ∧ q t b o = true)
  | 0, s => Or.inl ⟨rfl, fun t b h1 h2 => by omega⟩
  | n + 1, s => by
    have e : stepI q o (n + 1) s d = altI q o s 5 (-2) (stepI q o n (s + 1) d) := rfl
    rw [e]
    rcases altI_cases q o s (stepI q o n (s + 1) d) 5 (-2) with ⟨h1, h2⟩ | ⟨b, hb⟩
    · rw [h1]
      rcases stepI_cases q o d n (s + 1) with ⟨g1, g2⟩ | h
      · refine Or.inl ⟨g1, fun t b t1 t2 => ?_⟩
        by_cases ht : t = s
        · subst ht
          by_cases hn : isNoteI t b o = true
          · have := isNoteI_small hn
            exact h2 b (by omega) (by omega)
          · simp only [Bool.not_eq_true] at hn
            rw [hn]
            rfl
        · exact g2 t b (by omega) (by omega)
      · exact Or.inr h
    · exact Or.inr ⟨s, b, hb⟩
theorem octI_cases' (q : Int → Int → Int → Bool) : ∀ (n : Nat) (o : Int), (octI q n o = (0, 0, 0, false) ∧ ∀ u t b, o ≤ u → u < o + n → (isNoteI t b u && q t b u) = false) ∨ (∃ u t b, octI q n o = (t, b, u, true) ∧ isNoteI t b u = true ∧ q t b u = true)
  | 0, o => Or.inl ⟨rfl, fun u t b h1 h2 => by omega⟩
  | n + 1, o => by
    have e : octI q (n + 1) o = stepI q o 7 0 (octI q n (o + 1)) := rfl
    rw [e]
    rcases stepI_cases q o (octI q n (o + 1)) 7 0 with ⟨h1, h2⟩ | ⟨t, b, hb⟩
    · rw [h1]
      rcases octI_cases' q n (o + 1) with ⟨g1, g2⟩ | h
      · refine Or.inl ⟨g1, fun u t b u1 u2 => ?_⟩
        by_cases hu : u = o
        · subst hu
          by_cases hn : isNoteI t b u = true
          · have := isNoteI_small hn
            exact h2 t b (by omega) (by omega)
          · simp only [Bool.not_eq_true] at hn
            rw [hn]
            rfl
        · exact g2 u t b (by omega) (by omega)
      · exact Or.inr h
    · exact Or.inr ⟨o, t, b, hb⟩
theorem octI_cases (q : Int → Int → Int → Bool) : (octI q 9 0 = (0, 0, 0, false) ∧ ∀ t b u, isNoteI t b u = true → q t b u = false) ∨ (∃ t b u, octI q 9 0 = (t, b, u, true) ∧ isNoteI t b u = true ∧ q t b u = true) := by
  rcases octI_cases' q 9 0 with ⟨h1, h2⟩ | ⟨u, t, b, h⟩
  · refine Or.inl ⟨h1, fun t b u hn => ?_⟩
    have := isNoteI_small hn
    have := h2 u t b (by omega) (by omega)
    rw [hn] at this
    simpa using this
  · exact Or.inr ⟨t, b, u, h⟩
end Go.Proofs.Ytiophiipmgpaeaa.F

namespace Go.Proofs.Ytiophiipmgpaeaa.F
open Go.RowKit Go.Proofs.Ytiophiipmgpaeaa.Opened Go.Proofs.YtiophiipmgpaeaaW.PrintWords Go.Proofs.YtiophiipmgpaeaaW.PrintLast Go.Proofs.YtiophiipmgpaeaaW.PrintMore
set_option linter.unusedVariables false
set_option linter.unusedSimpArgs false
theorem key7 (b : List Int) (i h : Int) (hb : b.length ≤ 1048576) (hi : 0 ≤ i) (hi' : i ≤ b.length) : ∃ x i' h', spec_l7Key.f b i h = some (x, i', h') ∧ 0 ≤ i' ∧ i' ≤ b.length := by
  unfold spec_l7Key.f
  obtain ⟨x1, i1, h1, e1, a1, b1, c1, d1⟩ := spec_l1Below.ok' b i h 15 (by omega) hb hi hi'
  rw [e1]
  exact ⟨_, _, _, rfl, c1, d1⟩
theorem any7 (b : List Int) (i h : Int) (hb : b.length ≤ 1048576) (hi : 0 ≤ i) (hi' : i ≤ b.length) : ∃ x i' h', spec_l7Any.f b i h = some (x, i', h') ∧ 0 ≤ i' ∧ i' ≤ b.length := by
  unfold spec_l7Any.f
  obtain ⟨x1, i1, h1, e1, c1, d1⟩ := key7 b i h hb hi hi'
  rw [e1]
  simp only [Option.bind_some]
  obtain ⟨x2, i2, h2, e2, c2, d2⟩ := key7 b i1 h1 hb c1 d1
  rw [e2]
  simp only [Option.bind_some]
  obtain ⟨x3, i3, h3, e3, c3, d3⟩ := key7 b i2 h2 hb c2 d2
  rw [e3]
  simp only [Option.bind_some]
  obtain ⟨x4, i4, h4, e4, _, c4, d4⟩ := spec_l1Int.ok b i3 h3 [x1, x2, x3, -8, 8, 9223372036854775807] (by simp) hb c3 d3
  rw [e4]
  exact ⟨_, _, _, rfl, c4, d4⟩
theorem raw4 (b : List Int) (i h : Int) (hb : b.length ≤ 1048576) (hi : 0 ≤ i) (hi' : i ≤ b.length) : ∃ x i' h', spec_l4Raw.f b i h = some (x, i', h') ∧ 0 ≤ i' ∧ i' ≤ b.length := by
  unfold spec_l4Raw.f
  obtain ⟨x4, i4, h4, e4, _, c4, d4⟩ := spec_l1Int.ok b i h [-1, 0, 1, 1000000000, -1000000000, 1000000001, 1000000, 1000001, 9223372036854775807, -9223372036854775808] (by simp) hb hi hi'
  rw [e4]
  exact ⟨_, _, _, rfl, c4, d4⟩
theorem any6 (b : List Int) (i h : Int) (hb : b.length ≤ 1048576) (hi : 0 ≤ i) (hi' : i ≤ b.length) : ∃ x y i' h', spec_l6Any.f b i h = some (x, y, i', h') ∧ 0 ≤ i' ∧ i' ≤ b.length := by
  unfold spec_l6Any.f spec_l6Draw.f
  obtain ⟨x1, i1, h1, e1, _, _, c1, d1⟩ := spec_l1Below.ok' b i h 15 (by omega) hb hi hi'
  rw [e1]
  simp only [Option.bind_some]
  obtain ⟨x2, i2, h2, e2, _, _, c2, d2⟩ := spec_l1Below.ok' b i1 h1 25 (by omega) hb c1 d1
  rw [e2]
  simp only [Option.bind_some]
  obtain ⟨x3, i3, h3, e3, _, c3, d3⟩ := spec_l1Int.ok b i2 h2 [wrap64 (2 * wrap64 (x1 - 7)), wrap64 (Int.tdiv (wrap64 (12 * wrap64 (x1 - 7))) 7), wrap64 (wrap64 (x1 - 7) + wrap64 (Int.tdiv (wrap64 (x1 - 7)) 2)), wrap64 (x2 - 12)] (by simp) hb c2 d2
  rw [e3]
  simp only [Option.bind_some]
  obtain ⟨x4, i4, h4, e4, _, _, c4, d4⟩ := spec_l1Below.ok' b i3 h3 9 (by omega) hb c3 d3
  rw [e4]
  simp only [Option.bind_some]
  obtain ⟨x5, i5, h5, e5, c5, d5⟩ := raw4 b i4 h4 hb c4 d4
  rw [e5]
  simp only [Option.bind_some]
  split
  · exact ⟨_, _, _, _, rfl, c5, d5⟩
  · split
    · exact ⟨_, _, _, _, rfl, c5, d5⟩
    · exact ⟨_, _, _, _, rfl, c4, d4⟩
theorem drawKey (b : List Int) (hb : b.length ≤ 1048576) (k : Nat) (hk : b.length < k) : ∃ x y z, spec_DrawMoveKey.f k b = some (x, y, z) := by
  unfold spec_DrawMoveKey.f
  obtain ⟨h0, e0⟩ := spec_l1New.ok b (by omega) k hk
  rw [e0]
  simp only [Option.bind_some]
  obtain ⟨x1, i1, h1, e1, c1, d1⟩ := any7 b 0 h0 hb (by omega) (by omega)
  rw [e1]
  simp only [Option.bind_some]
  obtain ⟨x2, y2, i2, h2, e2, c2, d2⟩ := any6 b i1 h1 hb c1 d1
  rw [e2]
  exact ⟨_, _, _, rfl⟩
theorem drawSpell (b : List Int) (hb : b.length ≤ 1048576) (k : Nat) (hk : b.length < k) : ∃ x y, spec_DrawSpellIn.f k b = some (x, y) := by
  unfold spec_DrawSpellIn.f
  obtain ⟨h0, e0⟩ := spec_l1New.ok b (by omega) k hk
  rw [e0]
  simp only [Option.bind_some]
  obtain ⟨x1, i1, h1, e1, c1, d1⟩ := any7 b 0 h0 hb (by omega) (by omega)
  rw [e1]
  simp only [Option.bind_some]
  obtain ⟨x2, i2, h2, e2, _, _, c2, d2⟩ := spec_l1Below.ok' b i1 h1 40 (by omega) hb c1 d1
  rw [e2]
  simp only [Option.bind_some]
  obtain ⟨x3, i3, h3, e3, _, _, c3, d3⟩ := spec_l1Below.ok' b i2 h2 40 (by omega) hb c2 d2
  rw [e3]
  simp only [Option.bind_some]
  obtain ⟨x4, i4, h4, e4, _, c4, d4⟩ := spec_l1Int.ok b i3 h3 [11, 12, 119, 120, wrap64 (40 + x2), wrap64 (40 + x3)] (by simp) hb c3 d3
  rw [e4]
  exact ⟨_, _, rfl⟩
theorem alterI_small (k s : Int) : -1 ≤ alterI k s ∧ alterI k s ≤ 1 := by
  unfold alterI
  repeat' split
  all_goals omega
set_option maxHeartbeats 4000000 in
theorem move_key (k n s S H : Int) (hk : -7 ≤ k ∧ k ≤ 7) (hn : -7 ≤ n ∧ n ≤ 7) (hs : 0 ≤ s ∧ s ≤ 6) (he : n = k + 7 * H - 12 * S) (hp : 0 ≤ 28 + s + S) :
    pitI s (alterI k s) 4 + H - pitI ((28 + s + S) % 7) 0 ((28 + s + S) / 7) = alterI n ((28 + s + S) % 7) := by
  generalize hr : (28 + s + S) % 7 = r
  generalize hq : (28 + s + S) / 7 = q
  have h1 : 28 + s + S = 7 * q + r := by omega
  have h2 : 0 ≤ r ∧ r ≤ 6 := by omega
  rw [show alterI k s = if shI s < k then 1 else if 6 - shI s < -k then -1 else 0 from if_pos ⟨hk, hs⟩, show alterI n r = if shI r < n then 1 else if 6 - shI r < -n then -1 else 0 from if_pos ⟨hn, h2⟩]
  have c1 : s = 0 ∨ s = 1 ∨ s = 2 ∨ s = 3 ∨ s = 4 ∨ s = 5 ∨ s = 6 := by omega
  have c2 : r = 0 ∨ r = 1 ∨ r = 2 ∨ r = 3 ∨ r = 4 ∨ r = 5 ∨ r = 6 := by omega
  clear hr hq hs h2
  rcases c1 with rfl | rfl | rfl | rfl | rfl | rfl | rfl <;> rcases c2 with rfl | rfl | rfl | rfl | rfl | rfl | rfl <;> (simp (config := {decide := true}) only [pitI, halvI, shI, if_true, if_false] at *; (repeat' split) <;> omega)
theorem sum_key (k : Int) (hk : -7 ≤ k ∧ k ≤ 7) : 0 + alterI k 0 + alterI k 1 + alterI k 2 + alterI k 3 + alterI k 4 + alterI k 5 + alterI k 6 = k := by
  have c1 : k = -7 ∨ k = -6 ∨ k = -5 ∨ k = -4 ∨ k = -3 ∨ k = -2 ∨ k = -1 ∨ k = 0 ∨ k = 1 ∨ k = 2 ∨ k = 3 ∨ k = 4 ∨ k = 5 ∨ k = 6 ∨ k = 7 := by omega
  rcases c1 with rfl | rfl | rfl | rfl | rfl | rfl | rfl | rfl | rfl | rfl | rfl | rfl | rfl | rfl | rfl <;> decide
theorem tonic_ok (k : Int) : ∃ t, impl_TonicOf.f k = some t ∧ (t ≥ 0 ↔ -7 ≤ k ∧ k ≤ 7) ∧ t ≤ 11 := by
  unfold impl_TonicOf.f impl_Mod.f
  rw [isKey_ok, InR_ok]
  simp only [Option.bind_some]
  by_cases h : -7 ≤ k ∧ k ≤ 7
  · rw [if_pos (decide_eq_true h), if_pos (by decide), if_neg (by decide), wq (x := 7 * k) (by omega) (by omega)]
    have c1 : k = -7 ∨ k = -6 ∨ k = -5 ∨ k = -4 ∨ k = -3 ∨ k = -2 ∨ k = -1 ∨ k = 0 ∨ k = 1 ∨ k = 2 ∨ k = 3 ∨ k = 4 ∨ k = 5 ∨ k = 6 ∨ k = 7 := by omega
    refine ⟨_, rfl, ?_⟩
    clear h
    rcases c1 with rfl | rfl | rfl | rfl | rfl | rfl | rfl | rfl | rfl | rfl | rfl | rfl | rfl | rfl | rfl <;> decide +kernel
  · rw [if_neg (by rw [decide_eq_false h]; simp)]
    exact ⟨-1, rfl, by omega, by omega⟩
theorem small_ok (S H : Int) : impl_isSmall.f S H = some (decide ((-1000 ≤ S ∧ S ≤ 1000) ∧ (-1000 ≤ H ∧ H ≤ 1000))) := by
  unfold impl_isSmall.f
  rw [InR_ok, InR_ok]
  simp only [Option.bind_some]
  by_cases h1 : -1000 ≤ S ∧ S ≤ 1000
  · rw [if_pos (decide_eq_true h1)]
    congr 1
    exact decide_eq_decide.mpr ⟨fun h => ⟨h1, h⟩, fun h => h.2⟩
  · rw [if_neg (by rw [decide_eq_false h1]; simp), decide_eq_false (fun h => h1 h.1)]
theorem moveKey_ok (k S H : Int) (n : Nat) : ∃ x c, impl_MoveKey.f (n + 1) k S H = some (x, c) ∧ (c = true → (-7 ≤ k ∧ k ≤ 7) ∧ (-7 ≤ x ∧ x ≤ 7) ∧ x = k + 7 * H - 12 * S ∧ (-1000 ≤ S ∧ S ≤ 1000) ∧ (-1000 ≤ H ∧ H ≤ 1000)) := by
  unfold impl_MoveKey.f
  rw [isKey_ok, small_ok]
  simp only [Option.bind_some, impl_MoveKey.j0]
  by_cases h1 : -7 ≤ k ∧ k ≤ 7
  · rw [if_pos (decide_eq_true h1)]
    by_cases h2 : (-1000 ≤ S ∧ S ≤ 1000) ∧ (-1000 ≤ H ∧ H ≤ 1000)
    · rw [decide_eq_true h2, if_neg (by simp), wq (x := 7 * H) (by omega) (by omega), wq (x := k + 7 * H) (by omega) (by omega), wq (x := 12 * S) (by omega) (by omega), wq (x := k + 7 * H - 12 * S) (by omega) (by omega), isKey_ok, Option.bind_some]
      by_cases h3 : -7 ≤ k + 7 * H - 12 * S ∧ k + 7 * H - 12 * S ≤ 7
      · rw [if_pos (decide_eq_true h3)]
        exact ⟨_, _, rfl, fun _ => ⟨h1, h3, rfl, h2.1, h2.2⟩⟩
      · rw [if_neg (by rw [decide_eq_false h3]; simp)]
        exact ⟨_, _, rfl, fun h => absurd h (by simp)⟩
    · rw [decide_eq_false h2, if_pos (c := (!false) = true) rfl]
      exact ⟨_, _, rfl, fun h => absurd h (by simp)⟩
  · rw [if_neg (by rw [decide_eq_false h1]; simp), if_pos trivial]
    exact ⟨_, _, rfl, fun h => absurd h (by simp)⟩
theorem isNote_mid {s a : Int} (hs : 0 ≤ s ∧ s ≤ 6) (ha : -1 ≤ a ∧ a ≤ 1) : isNoteI s a 4 = true := by
  have hb := halvI_b s
  unfold isNoteI pitI
  simp only [Bool.and_eq_true, decide_eq_true_eq]
  omega
theorem moveNote_ok (k n s S H : Int) (hk : -7 ≤ k ∧ k ≤ 7) (hn : -7 ≤ n ∧ n ≤ 7) (hs : 0 ≤ s ∧ s ≤ 6) (he : n = k + 7 * H - 12 * S) (hS : -1000 ≤ S ∧ S ≤ 1000) (hH : -1000 ≤ H ∧ H ≤ 1000) (m : Nat) :
    ∃ x y z c, impl_MoveNote.f (m + 1) s (alterI k s) 4 S H = some (x, y, z, c) ∧ (c = true → inKeyI n x y z = true) := by
  have ha := alterI_small k s
  unfold impl_MoveNote.f
  rw [isNote_ok, isNote_mid hs ha, small_ok, decide_eq_true (And.intro hS hH)]
  simp only [Option.bind_some, impl_MoveNote.j0, if_true]
  rw [if_neg (by simp), wq (x := 7 * 4) (by omega) (by omega), wq (x := 7 * 4 + s) (by omega) (by omega), wq (x := 7 * 4 + s + S) (by omega) (by omega), show 7 * 4 + s + S = 28 + s + S by omega]
  by_cases hp : 28 + s + S < 0
  · rw [if_pos hp]
    exact ⟨_, _, _, _, rfl, fun h => absurd h (by simp)⟩
  · have e1 : Int.tmod (28 + s + S) 7 = (28 + s + S) % 7 := Int.tmod_eq_emod_of_nonneg (by omega)
    have e2 : Int.tdiv (28 + s + S) 7 = (28 + s + S) / 7 := Int.tdiv_eq_ediv_of_nonneg (by omega)
    have hmk := move_key k n s S H hk hn hs he (by omega)
    rw [if_neg hp, e1, e2]
    generalize hr : (28 + s + S) % 7 = r at *
    generalize hq : (28 + s + S) / 7 = q at *
    have hr2 : 0 ≤ r ∧ r ≤ 6 := by omega
    have hb := halvI_b s
    have hb2 := halvI_b r
    rw [wq (x := q) (by omega) (by omega), pitch_ok hs (by omega) (by omega), pitch_ok hr2 (by omega) (by omega)]
    simp only [Option.bind_some]
    have hb3 : -100000 ≤ pitI s (alterI k s) 4 ∧ pitI s (alterI k s) 4 ≤ 100000 := by unfold pitI; omega
    have hb4 : -100000 ≤ pitI r 0 q ∧ pitI r 0 q ≤ 100000 := by unfold pitI; omega
    rw [wq (x := pitI s (alterI k s) 4 + H) (by omega) (by omega), wq (x := pitI s (alterI k s) 4 + H - pitI r 0 q) (by omega) (by omega), hmk, isNote_ok, Option.bind_some]
    by_cases c : isNoteI r (alterI n r) q = true
    · rw [if_pos c]
      refine ⟨_, _, _, _, rfl, fun _ => ?_⟩
      unfold inKeyI
      rw [c, decide_eq_true hn, beq_self_eq_true]
      rfl
    · rw [if_neg c]
      exact ⟨_, _, _, _, rfl, fun h => absurd h (by simp)⟩
theorem spellI_pitch (a0 a1 : Int) : ∃ r1 r2 r3 r4, impl_SpellIn.f a0 a1 = some (r1, r2, r3, r4) ∧ (r4 = true → isNoteI r1 r2 r3 = true ∧ pitI r1 r2 r3 = a1) := by
  unfold impl_SpellIn.f
  by_cases hk : -7 ≤ a0 ∧ a0 ≤ 7
  · by_cases hp : 12 ≤ a1 ∧ a1 ≤ 119
    · rw [if_pos hk, if_pos hp]
      have e0 : spellI a0 a1 = if (octI (qkI a1 a0) 9 0).2.2.2 = true then octI (qkI a1 a0) 9 0 else ssI a1 2 0 := rfl
      rw [e0]
      rcases octI_cases (qkI a1 a0) with ⟨h1, h2⟩ | ⟨t, b, u, h1, h2, h3⟩
      · rw [h1, if_neg (by simp)]
        have e1 : ssI a1 2 0 = if (octI (qsI a1 0) 9 0).2.2.2 = true then octI (qsI a1 0) 9 0 else (if (octI (qsI a1 1) 9 0).2.2.2 = true then octI (qsI a1 1) 9 0 else (0, 0, 0, false)) := rfl
        rw [e1]
        have f : ∀ al t b u, qsI a1 al t b u = true → pitI t b u = a1 := by
          intro al t b u h
          unfold qsI at h
          simp only [Bool.and_eq_true, beq_iff_eq] at h
          exact h.1
        rcases octI_cases (qsI a1 0) with ⟨g1, g2⟩ | ⟨t, b, u, g1, g2, g3⟩
        · rw [g1, if_neg (by simp)]
          rcases octI_cases (qsI a1 1) with ⟨q1, q2⟩ | ⟨t, b, u, q1, q2, q3⟩
          · rw [q1, if_neg (by simp)]
            exact ⟨_, _, _, _, rfl, fun h => absurd h (by simp)⟩
          · rw [q1, if_pos rfl]
            exact ⟨_, _, _, _, rfl, fun _ => ⟨q2, f _ _ _ _ q3⟩⟩
        · rw [g1, if_pos rfl]
          exact ⟨_, _, _, _, rfl, fun _ => ⟨g2, f _ _ _ _ g3⟩⟩
      · rw [h1, if_pos rfl]
        unfold qkI at h3
        simp only [Bool.and_eq_true, beq_iff_eq] at h3
        exact ⟨_, _, _, _, rfl, fun _ => ⟨h2, h3.1⟩⟩
    · rw [if_pos hk, if_neg hp]
      exact ⟨_, _, _, _, rfl, fun h => absurd h (by simp)⟩
  · rw [if_neg hk]
    exact ⟨_, _, _, _, rfl, fun h => absurd h (by simp)⟩
end Go.Proofs.Ytiophiipmgpaeaa.F
namespace Go.Proofs.Ytiophiipmgpaeaa.Pure
open Go.RowKit Go.Proofs.Ytiophiipmgpaeaa.F Go.Proofs.Ytiophiipmgpaeaa.Opened Go.Proofs.YtiophiipmgpaeaaW.PrintWords Go.Proofs.YtiophiipmgpaeaaW.PrintLast Go.Proofs.YtiophiipmgpaeaaW.PrintMore
set_option linter.unusedVariables false
set_option linter.unusedSimpArgs false
theorem sumL (x : Int) (n : Nat) : ∃ r, laws_FnKeys.l1 (n + 20) x 0 0 = some r ∧ r = true := by
  have st : ∀ (m : Nat) (acc i j : Int), j = i + 1 → 0 ≤ i → i < 7 → -100 ≤ acc → acc ≤ 100 → laws_FnKeys.l1 ((m + 9) + 1) x acc i = laws_FnKeys.l1 (m + 9) x (acc + alterI x i) j := by
    intro m acc i j hj h0 h1 h2 h3
    subst hj
    have hs := alterI_small x i
    rw [laws_FnKeys.l1, if_pos h1, alter_ok, Option.bind_some, wq (x := acc + alterI x i) (by omega) (by omega), wq (x := i + 1) (by omega) (by omega)]
  have b0 := alterI_small x 0
  have b1 := alterI_small x 1
  have b2 := alterI_small x 2
  have b3 := alterI_small x 3
  have b4 := alterI_small x 4
  have b5 := alterI_small x 5
  have b6 := alterI_small x 6
  rw [show n + 20 = ((n + 10) + 9) + 1 by omega, st _ 0 0 1 rfl (by omega) (by omega) (by omega) (by omega), show n + 10 + 9 = ((n + 9) + 9) + 1 by omega, st _ _ 1 2 rfl (by omega) (by omega) (by omega) (by omega), show n + 9 + 9 = ((n + 8) + 9) + 1 by omega, st _ _ 2 3 rfl (by omega) (by omega) (by omega) (by omega), show n + 8 + 9 = ((n + 7) + 9) + 1 by omega, st _ _ 3 4 rfl (by omega) (by omega) (by omega) (by omega), show n + 7 + 9 = ((n + 6) + 9) + 1 by omega, st _ _ 4 5 rfl (by omega) (by omega) (by omega) (by omega), show n + 6 + 9 = ((n + 5) + 9) + 1 by omega, st _ _ 5 6 rfl (by omega) (by omega) (by omega) (by omega), show n + 5 + 9 = ((n + 4) + 9) + 1 by omega, st _ _ 6 7 rfl (by omega) (by omega) (by omega) (by omega)]
  obtain ⟨t, ht, h1, h2⟩ := tonic_ok x
  rw [show n + 4 + 9 = (n + 12) + 1 by omega, laws_FnKeys.l1, if_neg (by omega), isKey_ok, ht]
  simp only [Option.bind_some]
  by_cases hk : -7 ≤ x ∧ x ≤ 7
  · have hs := sum_key x hk
    rw [decide_eq_true hk, decide_eq_true (h1.mpr hk), if_pos (c := (true == true) = true) rfl]
    try rw [if_pos rfl]
    refine ⟨_, rfl, ?_⟩
    rw [beq_iff_eq]
    simp only [Int.zero_add] at hs ⊢
    exact hs
  · rw [decide_eq_false hk, decide_eq_false (fun h => hk (h1.mp h)), if_pos (c := (false == false) = true) rfl]
    try rw [if_neg (by simp)]
    exact ⟨_, rfl, rfl⟩
theorem partJ (l : List Int) (hl : l.length ≤ 1048576) (x : Int) (n : Nat) : laws_FnKeys.j1 (l.length + 30 + n) l x = some true := by
  rw [show l.length + 30 + n = (l.length + 29 + n) + 1 by omega, laws_FnKeys.j1]
  obtain ⟨a, p, e0⟩ := drawSpell l hl (l.length + 29 + n) (by omega)
  rw [e0]
  simp only [Option.bind_some]
  obtain ⟨r1, r2, r3, r4, e1, h1⟩ := spellI_pitch a p
  rw [e1]
  simp only [Option.bind_some]
  obtain ⟨r, e2, rfl⟩ := sumL x (l.length + n + 8)
  have e3 : laws_FnKeys.j2 (l.length + 29 + n) x false = some true := by
    rw [show l.length + 29 + n = (l.length + n + 8 + 20) + 1 by omega, laws_FnKeys.j2, if_neg (by simp), e2]
  cases r4 with
  | false => rw [if_neg (by simp)]; exact e3
  | true =>
    obtain ⟨h2, h3⟩ := h1 rfl
    have hb := isNoteI_b h2
    have e4 : impl_PitchOf.f r1 r2 r3 = some p := by
      unfold impl_PitchOf.f
      rw [isNote_ok, h2, Option.bind_some, if_pos rfl, pitch_ok hb.1 hb.2.1 hb.2.2, h3]
      rfl
    rw [if_pos rfl, e4, Option.bind_some, bne_self_eq_false]
    exact e3
theorem loopK (l : List Int) (hl : l.length ≤ 1048576) (k n S H : Int) (hk : -7 ≤ k ∧ k ≤ 7) (hn : -7 ≤ n ∧ n ≤ 7) (he : n = k + 7 * H - 12 * S) (hS : -1000 ≤ S ∧ S ≤ 1000) (hH : -1000 ≤ H ∧ H ≤ 1000) : ∀ (d : Nat) (s : Int), s + d = 7 → 0 ≤ s → ∀ m, laws_FnKeys.l0 (l.length + 40 + d + m) l k n s S H = some true
  | 0, s, h1, h2, m => by
    obtain ⟨t, ht, h3, h4⟩ := tonic_ok n
    rw [show l.length + 40 + 0 + m = (l.length + 30 + (9 + m)) + 1 by omega, laws_FnKeys.l0, if_neg (by omega), ht]
    simp only [Option.bind_some]
    rw [if_neg (by have := h3.mpr hn; omega), if_neg (by omega), partJ l hl]
  | d + 1, s, h1, h2, m => by
    have ih := loopK l hl k n S H hk hn he hS hH d (s + 1) (by omega) (by omega) m
    obtain ⟨x, y, z, c, e1, h3⟩ := moveNote_ok k n s S H hk hn ⟨h2, by omega⟩ he hS hH (l.length + 39 + d + m)
    have e2 : inKeyI k s (alterI k s) 4 = true := by
      unfold inKeyI
      rw [decide_eq_true hk, isNote_mid ⟨h2, by omega⟩ (alterI_small k s), beq_self_eq_true]
      rfl
    have eA := alter_ok k s (l.length + 31 + d + m)
    have eK := inKey_ok k s (alterI k s) 4 (l.length + 31 + d + m)
    have eN := inKey_ok n x y z (l.length + 31 + d + m)
    rw [show l.length + 31 + d + m + 9 = l.length + 40 + d + m by omega] at eA eK eN
    rw [show l.length + 39 + d + m + 1 = l.length + 40 + d + m by omega] at e1
    rw [show l.length + 40 + (d + 1) + m = (l.length + 40 + d + m) + 1 by omega, laws_FnKeys.l0, if_pos (by omega), eA, Option.bind_some, e1]
    simp only [Option.bind_some]
    rw [eK, eN, e2]
    simp only [Option.bind_some, if_true]
    rw [wq (x := s + 1) (by omega) (by omega), ih]
    cases c with
    | false => rfl
    | true => rw [h3 rfl]; rfl
theorem pure_FnKeys (l0 : List Int) (hl : l0.length ≤ 9223372036854775807) (hg : ∀ x ∈ l0, (Lit.int .u8 x).wf = true) : ∃ k, laws_FnKeys.f k l0 = some true := by
  by_cases hb : (l0.length : Int) > 1048576
  · refine ⟨0, ?_⟩
    unfold laws_FnKeys.f laws_big.f
    simp [hb]
  · have hl2 : l0.length ≤ 1048576 := by omega
    refine ⟨l0.length + 40 + 7 + 1, ?_⟩
    unfold laws_FnKeys.f laws_big.f
    rw [Option.bind_some, if_neg (by rw [decide_eq_false hb]; simp)]
    obtain ⟨k, S, H, e1⟩ := drawKey l0 hl2 (l0.length + 40 + 7 + 1) (by omega)
    rw [e1]
    simp only [Option.bind_some]
    obtain ⟨x, c, e2, h2⟩ := moveKey_ok k S H (l0.length + 40 + 7)
    rw [e2]
    simp only [Option.bind_some]
    cases c with
    | false =>
      rw [if_neg (by simp), show l0.length + 40 + 7 + 1 = l0.length + 30 + 18 by omega, partJ l0 hl2]
    | true =>
      obtain ⟨g1, g2, g3, g4, g5⟩ := h2 rfl
      rw [if_pos rfl, loopK l0 hl2 k x S H g1 g2 g3 g4 g5 7 0 (by omega) (by omega)]
end Go.Proofs.Ytiophiipmgpaeaa.Pure

namespace Go.Proofs.Ytiophiipmgpaeaa.fnKeys
open Go.ChangeShapes Go.WideShapes Go.ChangeAt Go.RowKit Go.Joins Go.Proofs.YtiophiipmgpaeaaW.PrintWords Go.Proofs.Ytiophiipmgpaeaa.Opened Go.Proofs.Ytiophiipmgpaeaa.F
open Go.ChangeMaps (open_string shut_string)
set_option linter.unusedVariables false
theorem own : ownKnob Try.prog.godebug = none := by kernel_rfl
theorem laidOut : laidOutB Try.prog = true := by kernel_rfl
set_option maxRecDepth 100000 in
theorem lifted (os : Os) (started : os.Started) (H : Type) (enc : TypeId × Value → H) :
    ReturnsInHanded {} Try.checked os 14 .any (Rows.fnKeysSpec.pre6 enc Try.prog Try.f14 Rows.fnKeysRow.domain false) (Rows.fnKeysSpec.post enc Try.prog Try.f14 false true false false) := by
  refine returnsInHanded_of_change_sized (C := Try.checked) own started (by kernel_rfl) Try.func14
    (ChangeSpec.witness6 (enc := enc) (C := Try.checked) false ⟨#[], #[.slice none 0 0], []⟩ 8 (by kernel_rfl) (by kernel_rfl) (by kernel_rfl) (by kernel_rfl)) ?_
  intro W base args ds gs before hval0 hW hcnd hsz0 _
  have hval : ∀ (j : Nat) t v, Try.f14.params[j]? = some t → args[j]? = some v → Value.okWide Try.prog W .any base t v := hval0
  have hW' := hW
  obtain ⟨p, q, hA0, hV, rfl, hfz, hnd⟩ := hW
  have hA : DataW.TrodAll enc Try.prog W 0 (fun _ => true) true Try.f14.params.toList args.toList ds p := hA0
  rw [Try.params14] at hA hval
  obtain ⟨v0, vs0, d0, ds0, p0, q0, hargs, rfl, rfl, h0, r0⟩ := trodAll_cons hA
  obtain ⟨rfl, rfl, rfl⟩ := trodAll_nil r0
  obtain rfl : args = #[v0] := by cases args; simp_all
  obtain ⟨rfl, rfl⟩ := trodVars_none hV
  have k0 := h0
  have lt0 : ∀ x ∈ p0, x.block < W.heap.size := by obtain ⟨m, hm⟩ := k0; exact DataW.trod_lt m _ _ _ hm
  obtain ⟨b0, len0, cap0, rfl⟩ := okWide_slice Try.underlying79 (hval 0 79 v0 rfl rfl)
  obtain ⟨l0, hl0, hc0, hC0, hg0⟩ := open_nums (k := .u8) Try.underlying79 Try.underlying5 (by kernel_rfl) h0
  subst hl0
  clear hA0 hval0 hsz0
  obtain ⟨kk, hp⟩ := Pure.pure_FnKeys l0 hC0.2.1 hg0
  refine (laws_FnKeys.calls kk _ _ l0 true W hC0 hc0 hp).mono fun e W' ⟨he, bel0⟩ => ?_
  have bel : Below W.heap.size W W' := bel0
  subst he
  exact ⟨_, rfl, _, _, _, [], _, [], hW', trodAll_mk1 (shut_bool Try.underlying4 _), (trodAll_cons_mk (Below.trod laidOut (by kernel_rfl) (of_decide_eq_true (by kernel_rfl)) k0 bel lt0) trodAll_mk0), rfl, bel.frame _, fun h => by cases h⟩
theorem over : Rows.fnKeysRow.holds Try.pinned (OpenSpec.ofChange Rows.fnKeysSpec) :=
  OpenClaim.holds_of_wide 14 Try.f14 rfl rfl rfl rfl rfl rfl rfl ⟨rfl, rfl, rfl, rfl, rfl⟩ rfl rfl rfl rfl rfl (by kernel_rfl) Try.func14 (by kernel_rfl)
    (of_decide_eq_true (by kernel_rfl)) (by unfold Func.isWrapper; first | (rw [if_pos (by decide +kernel)]; kernel_rfl) | (rw [if_neg (by decide +kernel)]; exact ⟨rfl, rfl⟩))
    (fun os started H enc _ => lifted os started H enc)
theorem proved : Rows.FnKeysSaid := over
#print axioms proved
end Go.Proofs.Ytiophiipmgpaeaa.fnKeys
namespace Go.Proofs.Ytiophiipmgpaeaa
theorem fnKeys_holds : Rows.FnKeysSaid := fnKeys.proved
end Go.Proofs.Ytiophiipmgpaeaa
