/- What the law's own helpers on lists of Played come to. -/
import Derived.Test.YtiophiipmgpaeaaBase
import Derived.Test.YtiophiipmgpaeaaF20
import Derived.Test.YtiophiipmgpaeaaF16
import Derived.Test.YtiophiipmgpaeaaF24
namespace Go.Proofs.Ytiophiipmgpaeaa.F
open Go.RowKit Go.Proofs.Ytiophiipmgpaeaa.Opened Go.Proofs.YtiophiipmgpaeaaW.PrintWords Go.Proofs.YtiophiipmgpaeaaW.PrintLast
set_option linter.unusedVariables false
set_option linter.unusedSimpArgs false

def conv111 (x : S111) : S109 := ⟨x.f0, x.f1⟩
theorem laws_szPlayedS.ok (l : List S111) (a : Int) (h : l.length ≤ 9223372036854775807) (h0 : 0 ≤ a) (h1 : a ≤ 1048576) : laws_szPlayedS.f l a = some (if a - l.length < 0 then -1 else a - l.length) := by
  have e : wrap64 (a - (l.length : Int)) = a - l.length := by unfold wrap64; omega
  unfold laws_szPlayedS.f
  rw [e]
  split <;> rfl
theorem laws_toPlayedS.loop (x : List S111) (hm : x.length ≤ 1048576) : ∀ (d k : Nat) (acc : List S109) (n : Nat), n ≤ x.length → x.length - n = d → d < k → acc.length = x.length → acc.take n = (x.map conv111).take n → laws_toPlayedS.l0 k x acc (n : Int) = some (x.map conv111) := by
  intro d
  induction d with
  | zero =>
    intro k acc n hn hd hk hl ha
    obtain ⟨k, rfl⟩ : ∃ m, k = m + 1 := ⟨k - 1, by omega⟩
    simp only [laws_toPlayedS.l0]
    rw [if_neg (by omega)]
    have : n = x.length := by omega
    subst this
    rw [← hl, List.take_length, hl, ← List.length_map (f := conv111), List.take_length] at ha
    rw [ha]
  | succ d ih =>
    intro k acc n hn hd hk hl ha
    obtain ⟨k, rfl⟩ : ∃ m, k = m + 1 := ⟨k - 1, by omega⟩
    have hlt : n < x.length := by omega
    simp only [laws_toPlayedS.l0, laws_toPlayed.f, Option.bind_some]
    rw [if_pos (by omega), if_pos (by omega), if_pos (by omega), w1 hlt (by omega), rdT111 x n hlt, Int.toNat_natCast]
    refine ih k _ (n + 1) (by omega) (by omega) (by omega) (by simpa using hl) ?_
    rw [set_take _ _ _ (by omega), ha, take_next (by simpa using hlt)]
    simp [conv111]
theorem laws_toPlayedS.ok (x : List S111) (hm : x.length ≤ 1048576) (k : Nat) (hk : x.length < k) : laws_toPlayedS.f k x = some (x.map conv111) := by
  unfold laws_toPlayedS.f
  rw [if_pos (by omega), if_pos (by omega), Int.toNat_natCast]
  exact laws_toPlayedS.loop x hm x.length k _ 0 (by omega) (by omega) hk (by simp) (by simp)
theorem laws_eqPlayed.same (v0 : Int) (v1 : Int) : laws_eqPlayed.f v0 v1 v0 v1 = some true := by simp [laws_eqPlayed.f]
theorem laws_eqPlayedS.loop (x : List S109) (hm : x.length ≤ 9223372036854775807) : ∀ (d k : Nat) (n : Nat), n ≤ x.length → x.length - n = d → d < k → laws_eqPlayedS.l0 k x x (n : Int) = some true := by
  intro d
  induction d with
  | zero =>
    intro k n hn hd hk
    obtain ⟨k, rfl⟩ : ∃ m, k = m + 1 := ⟨k - 1, by omega⟩
    simp only [laws_eqPlayedS.l0]
    rw [if_neg (by omega)]
  | succ d ih =>
    intro k n hn hd hk
    obtain ⟨k, rfl⟩ : ∃ m, k = m + 1 := ⟨k - 1, by omega⟩
    have hlt : n < x.length := by omega
    simp only [laws_eqPlayedS.l0, laws_eqPlayed.same, Option.bind_some]
    rw [if_pos (by omega), if_pos (by omega), w1 hlt hm]
    simp only [if_true]
    first
      | (rw [if_pos (by omega)]; exact ih k (n + 1) (by omega) (by omega) (by omega))
      | exact ih k (n + 1) (by omega) (by omega) (by omega)
theorem laws_eqPlayedS.ok (x : List S109) (hm : x.length ≤ 9223372036854775807) (k : Nat) (hk : x.length < k) : laws_eqPlayedS.f k x x = some true := by
  unfold laws_eqPlayedS.f
  rw [if_pos rfl]
  exact laws_eqPlayedS.loop x hm x.length k 0 (by omega) (by omega) hk

end Go.Proofs.Ytiophiipmgpaeaa.F
