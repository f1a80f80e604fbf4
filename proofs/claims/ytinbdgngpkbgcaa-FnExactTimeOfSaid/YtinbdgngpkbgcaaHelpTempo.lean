/- What the law's own helpers on lists of Tempo come to. -/
import Derived.Test.YtinbdgngpkbgcaaBase
import Derived.Test.YtinbdgngpkbgcaaF6
import Derived.Test.YtinbdgngpkbgcaaF1
import Derived.Test.YtinbdgngpkbgcaaF11
namespace Go.Proofs.Ytinbdgngpkbgcaa.F
open Go.RowKit Go.Proofs.Ytinbdgngpkbgcaa.Opened Go.Proofs.YtinbdgngpkbgcaaW.PrintWords Go.Proofs.YtinbdgngpkbgcaaW.PrintLast
set_option linter.unusedVariables false
set_option linter.unusedSimpArgs false

def conv76 (x : S76) : S74 := ⟨x.f0, x.f1⟩
theorem laws_szTempoS.ok (l : List S76) (a : Int) (h : l.length ≤ 9223372036854775807) (h0 : 0 ≤ a) (h1 : a ≤ 1048576) : laws_szTempoS.f l a = some (if a - l.length < 0 then -1 else a - l.length) := by
  have e : wrap64 (a - (l.length : Int)) = a - l.length := by unfold wrap64; omega
  unfold laws_szTempoS.f
  rw [e]
  split <;> rfl
theorem laws_toTempoS.loop (x : List S76) (hm : x.length ≤ 1048576) : ∀ (d k : Nat) (acc : List S74) (n : Nat), n ≤ x.length → x.length - n = d → d < k → acc.length = x.length → acc.take n = (x.map conv76).take n → laws_toTempoS.l0 k x acc (n : Int) = some (x.map conv76) := by
  intro d
  induction d with
  | zero =>
    intro k acc n hn hd hk hl ha
    obtain ⟨k, rfl⟩ : ∃ m, k = m + 1 := ⟨k - 1, by omega⟩
    simp only [laws_toTempoS.l0]
    rw [if_neg (by omega)]
    have : n = x.length := by omega
    subst this
    rw [← hl, List.take_length, hl, ← List.length_map (f := conv76), List.take_length] at ha
    rw [ha]
  | succ d ih =>
    intro k acc n hn hd hk hl ha
    obtain ⟨k, rfl⟩ : ∃ m, k = m + 1 := ⟨k - 1, by omega⟩
    have hlt : n < x.length := by omega
    simp only [laws_toTempoS.l0, laws_toTempo.f, Option.bind_some]
    rw [if_pos (by omega), if_pos (by omega), if_pos (by omega), w1 hlt (by omega), rdT76 x n hlt, Int.toNat_natCast]
    refine ih k _ (n + 1) (by omega) (by omega) (by omega) (by simpa using hl) ?_
    rw [set_take _ _ _ (by omega), ha, take_next (by simpa using hlt)]
    simp [conv76]
theorem laws_toTempoS.ok (x : List S76) (hm : x.length ≤ 1048576) (k : Nat) (hk : x.length < k) : laws_toTempoS.f k x = some (x.map conv76) := by
  unfold laws_toTempoS.f
  rw [if_pos (by omega), if_pos (by omega), Int.toNat_natCast]
  exact laws_toTempoS.loop x hm x.length k _ 0 (by omega) (by omega) hk (by simp) (by simp)
theorem laws_eqTempo.same (v0 : Int) (v1 : Int) : laws_eqTempo.f v0 v1 v0 v1 = some true := by simp [laws_eqTempo.f]
theorem laws_eqTempoS.loop (x : List S74) (hm : x.length ≤ 9223372036854775807) : ∀ (d k : Nat) (n : Nat), n ≤ x.length → x.length - n = d → d < k → laws_eqTempoS.l0 k x x (n : Int) = some true := by
  intro d
  induction d with
  | zero =>
    intro k n hn hd hk
    obtain ⟨k, rfl⟩ : ∃ m, k = m + 1 := ⟨k - 1, by omega⟩
    simp only [laws_eqTempoS.l0]
    rw [if_neg (by omega)]
  | succ d ih =>
    intro k n hn hd hk
    obtain ⟨k, rfl⟩ : ∃ m, k = m + 1 := ⟨k - 1, by omega⟩
    have hlt : n < x.length := by omega
    simp only [laws_eqTempoS.l0, laws_eqTempo.same, Option.bind_some]
    rw [if_pos (by omega), if_pos (by omega), w1 hlt hm]
    simp only [if_true]
    first
      | (rw [if_pos (by omega)]; exact ih k (n + 1) (by omega) (by omega) (by omega))
      | exact ih k (n + 1) (by omega) (by omega) (by omega)
theorem laws_eqTempoS.ok (x : List S74) (hm : x.length ≤ 9223372036854775807) (k : Nat) (hk : x.length < k) : laws_eqTempoS.f k x x = some true := by
  unfold laws_eqTempoS.f
  rw [if_pos rfl]
  exact laws_eqTempoS.loop x hm x.length k 0 (by omega) (by omega) hk

end Go.Proofs.Ytinbdgngpkbgcaa.F
