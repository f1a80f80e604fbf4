/- A list of ints is equal to itself. -/
import Derived.Test.YtiophiipmgpaeaaBase
import Derived.Test.YtiophiipmgpaeaaF14
import Derived.Test.YtiophiipmgpaeaaF12
namespace Go.Proofs.Ytiophiipmgpaeaa.F
open Go.RowKit Go.Proofs.Ytiophiipmgpaeaa.Opened Go.Proofs.YtiophiipmgpaeaaW.PrintWords Go.Proofs.YtiophiipmgpaeaaW.PrintLast
set_option linter.unusedVariables false
set_option linter.unusedSimpArgs false

theorem laws_eqIntS.loop (x : List Int) (hm : x.length ≤ 9223372036854775807) : ∀ (d k : Nat) (n : Nat), n ≤ x.length → x.length - n = d → d < k → laws_eqIntS.l0 k x x (n : Int) = some true := by
  intro d
  induction d with
  | zero =>
    intro k n hn hd hk
    obtain ⟨k, rfl⟩ : ∃ m, k = m + 1 := ⟨k - 1, by omega⟩
    simp only [laws_eqIntS.l0]
    rw [if_neg (by omega)]
  | succ d ih =>
    intro k n hn hd hk
    obtain ⟨k, rfl⟩ : ∃ m, k = m + 1 := ⟨k - 1, by omega⟩
    have hlt : n < x.length := by omega
    simp only [laws_eqIntS.l0]
    rw [if_pos (by omega), if_pos (by omega), w1 hlt hm]
    simp only [if_true]
    first
      | (rw [if_pos (by omega)]; exact ih k (n + 1) (by omega) (by omega) (by omega))
      | exact ih k (n + 1) (by omega) (by omega) (by omega)
theorem laws_eqIntS.ok (x : List Int) (hm : x.length ≤ 9223372036854775807) (k : Nat) (hk : x.length < k) : laws_eqIntS.f k x x = some true := by
  unfold laws_eqIntS.f
  rw [if_pos rfl]
  exact laws_eqIntS.loop x hm x.length k 0 (by omega) (by omega) hk
theorem laws_toIntS.loop (x : List Int) (hm : x.length ≤ 1048576) : ∀ (d k : Nat) (acc : List Int) (n : Nat), n ≤ x.length → x.length - n = d → d < k → acc.length = x.length → acc.take n = x.take n → laws_toIntS.l0 k x acc (n : Int) = some x := by
  intro d
  induction d with
  | zero =>
    intro k acc n hn hd hk hl ha
    obtain ⟨k, rfl⟩ : ∃ m, k = m + 1 := ⟨k - 1, by omega⟩
    simp only [laws_toIntS.l0]
    rw [if_neg (by omega)]
    have : n = x.length := by omega
    subst this
    rw [List.take_length, ← hl, List.take_length] at ha
    rw [ha]
  | succ d ih =>
    intro k acc n hn hd hk hl ha
    obtain ⟨k, rfl⟩ : ∃ m, k = m + 1 := ⟨k - 1, by omega⟩
    have hlt : n < x.length := by omega
    simp only [laws_toIntS.l0]
    rw [if_pos (by omega), if_pos (by omega), if_pos (by omega), w1 hlt (by omega), rd_nat x n hlt, Int.toNat_natCast]
    refine ih k _ (n + 1) (by omega) (by omega) (by omega) (by simpa using hl) ?_
    rw [set_take _ _ _ (by omega), ha, take_next hlt]
theorem laws_toIntS.ok (x : List Int) (hm : x.length ≤ 1048576) (k : Nat) (hk : x.length < k) : laws_toIntS.f k x = some x := by
  unfold laws_toIntS.f
  rw [if_pos (by omega), if_pos (by omega), Int.toNat_natCast]
  exact laws_toIntS.loop x hm x.length k _ 0 (by omega) (by omega) hk (by simp) (by simp)

end Go.Proofs.Ytiophiipmgpaeaa.F
