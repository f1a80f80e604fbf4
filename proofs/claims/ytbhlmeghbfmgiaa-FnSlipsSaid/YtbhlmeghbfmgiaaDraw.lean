/- Draws: what the cursor hands out is always there, and in its range. -/
import Derived.Test.YtbhlmeghbfmgiaaBase
import Derived.Test.YtbhlmeghbfmgiaaF4
import Derived.Test.YtbhlmeghbfmgiaaF5
import Derived.Test.YtbhlmeghbfmgiaaF6
import Derived.Test.YtbhlmeghbfmgiaaF7
namespace Go.Proofs.Ytbhlmeghbfmgiaa.F
open Go.RowKit Go.Proofs.Ytbhlmeghbfmgiaa.Opened Go.Proofs.YtbhlmeghbfmgiaaW.PrintWords Go.Proofs.YtbhlmeghbfmgiaaW.PrintLast Go.Proofs.YtbhlmeghbfmgiaaW.PrintMore
set_option linter.unusedVariables false
set_option linter.unusedSimpArgs false

theorem and255 (x : Int) : 0 ≤ Go.bits .and .i64 x 255 ∧ Go.bits .and .i64 x 255 ≤ 255 := by
  have h : (BitVec.ofInt 64 x &&& BitVec.ofInt 64 255).toNat ≤ 255 := by
    rw [BitVec.toNat_and]
    exact Nat.le_trans Nat.and_le_right (by decide)
  have e : Go.bits .and .i64 x 255 = IntKind.i64.wrap (((BitVec.ofInt 64 x &&& BitVec.ofInt 64 255).toNat : Nat) : Int) := rfl
  rw [e]
  generalize (BitVec.ofInt 64 x &&& BitVec.ofInt 64 255).toNat = n at h
  rw [IntKind.wrap_i64]
  omega
theorem spec_l1New.loop (l : List Int) (hm : l.length ≤ 9223372036854775807) : ∀ (d k n : Nat) (h : Int), l.length - n ≤ d → d < k → ∃ h', spec_l1New.l0 k l h (n : Int) = some (l, 0, h') := by
  intro d
  induction d with
  | zero =>
    intro k n h hd hk
    obtain ⟨k, rfl⟩ : ∃ m, k = m + 1 := ⟨k - 1, by omega⟩
    simp only [spec_l1New.l0]
    rw [if_neg (by omega)]
    exact ⟨h, rfl⟩
  | succ d ih =>
    intro k n h hd hk
    obtain ⟨k, rfl⟩ : ∃ m, k = m + 1 := ⟨k - 1, by omega⟩
    simp only [spec_l1New.l0]
    by_cases c : n < l.length
    · rw [if_pos (by omega)]
      by_cases c2 : (n : Int) < 4000
      · rw [if_pos c2, if_pos (by omega), w1 c hm]
        exact ih k (n + 1) _ (by omega) (by omega)
      · rw [if_neg c2]
        exact ⟨h, rfl⟩
    · rw [if_neg (by omega)]
      exact ⟨h, rfl⟩
theorem spec_l1New.ok (l : List Int) (hm : l.length ≤ 9223372036854775807) (k : Nat) (hk : l.length < k) : ∃ h', spec_l1New.f k l = some (l, 0, h') := by
  unfold spec_l1New.f
  exact spec_l1New.loop l hm l.length k 0 _ (by omega) hk
theorem spec_l1Byte.ok (b : List Int) (i h : Int) (hb : b.length ≤ 1048576) (hi : 0 ≤ i) (hi' : i ≤ b.length) : ∃ x i' h', spec_l1Byte.f b i h = some (x, i', h') ∧ (0 ≤ x ∧ x ≤ 255) ∧ 0 ≤ i' ∧ i' ≤ b.length := by
  unfold spec_l1Byte.f
  by_cases c : i < (b.length : Int)
  · rw [if_pos c, if_pos hi]
    have e : wrap64 (i + 1) = i + 1 := wid (by omega) (by omega)
    exact ⟨_, _, _, rfl, and255 _, by omega, by omega⟩
  · rw [if_neg c]
    exact ⟨_, _, _, rfl, and255 _, by omega, by omega⟩
theorem tmodR (x n : Int) (hx : 0 ≤ x) (hn : 0 < n) : 0 ≤ Int.tmod x n ∧ Int.tmod x n < n := by
  rw [Int.tmod_eq_emod_of_nonneg hx]
  exact ⟨Int.emod_nonneg _ (by omega), Int.emod_lt_of_pos _ hn⟩
/-- Below n: 0 where n is not above 0. -/
theorem spec_l1Below.ok (b : List Int) (i h n : Int) (hb : b.length ≤ 1048576) (hi : 0 ≤ i) (hi' : i ≤ b.length) : ∃ x i' h', spec_l1Below.f b i h n = some (x, i', h') ∧ 0 ≤ x ∧ (x < n ∨ (n ≤ 0 ∧ x = 0)) ∧ 0 ≤ i' ∧ i' ≤ b.length := by
  unfold spec_l1Below.f
  by_cases c : n ≤ 0
  · rw [if_pos c]
    exact ⟨_, _, _, rfl, by omega, by omega, hi, hi'⟩
  · rw [if_neg c]
    obtain ⟨x, i1, h1, e1, bx, j1, j1'⟩ := spec_l1Byte.ok b i h hb hi hi'
    rw [e1]
    simp only [Option.bind_some]
    rw [if_neg (show ¬ n = 0 by omega)]
    by_cases c2 : n ≤ 256
    · rw [if_pos c2]
      have := tmodR x n (by omega) (by omega)
      exact ⟨_, _, _, rfl, by omega, by omega, j1, j1'⟩
    · rw [if_neg c2]
      obtain ⟨y, i2, h2, e2, by_, j2, j2'⟩ := spec_l1Byte.ok b i1 h1 hb j1 j1'
      rw [e2]
      simp only [Option.bind_some]
      obtain ⟨z, i3, h3, e3, bz, j3, j3'⟩ := spec_l1Byte.ok b i2 h2 hb j2 j2'
      rw [e3]
      simp only [Option.bind_some]
      rw [if_neg (show ¬ n = 0 by omega)]
      have e : wrap64 (wrap64 (wrap64 (x * 65536) + wrap64 (y * 256)) + z) = x * 65536 + y * 256 + z := by unfold wrap64; omega
      have := tmodR (x * 65536 + y * 256 + z) n (by omega) (by omega)
      rw [e]
      exact ⟨_, _, _, rfl, by omega, by omega, j3, j3'⟩
theorem spec_l1Below.ok' (b : List Int) (i h n : Int) (hn : 0 < n) (hb : b.length ≤ 1048576) (hi : 0 ≤ i) (hi' : i ≤ b.length) : ∃ x i' h', spec_l1Below.f b i h n = some (x, i', h') ∧ 0 ≤ x ∧ x < n ∧ 0 ≤ i' ∧ i' ≤ b.length := by
  obtain ⟨x, i', h', e, a1, a2, a3, a4⟩ := spec_l1Below.ok b i h n hb hi hi'
  exact ⟨x, i', h', e, a1, by omega, a3, a4⟩
theorem spec_l1Int.ok (b : List Int) (i h : Int) (l : List Int) (hl : 0 < l.length) (hb : b.length ≤ 1048576) (hi : 0 ≤ i) (hi' : i ≤ b.length) : ∃ x i' h', spec_l1Int.f b i h l = some (x, i', h') ∧ x ∈ l ∧ 0 ≤ i' ∧ i' ≤ b.length := by
  unfold spec_l1Int.f
  obtain ⟨x, i', h', e, a1, a2, a3, a4⟩ := spec_l1Below.ok' b i h l.length (by omega) hb hi hi'
  rw [e]
  simp only [Option.bind_some]
  rw [if_pos a1, if_pos a2]
  refine ⟨_, _, _, rfl, ?_, a3, a4⟩
  obtain ⟨m, rfl⟩ := Int.eq_ofNat_of_zero_le a1
  rw [rd_nat l m (by omega)]
  exact List.getElem_mem _
end Go.Proofs.Ytbhlmeghbfmgiaa.F
