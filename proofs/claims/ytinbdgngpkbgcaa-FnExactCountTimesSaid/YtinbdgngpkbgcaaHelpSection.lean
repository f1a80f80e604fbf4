/- What the law's own helpers on lists of Section come to. -/
import Derived.Test.YtinbdgngpkbgcaaBase
import Derived.Test.YtinbdgngpkbgcaaF45
import Derived.Test.YtinbdgngpkbgcaaF42
import Derived.Test.YtinbdgngpkbgcaaF49
namespace Go.Proofs.Ytinbdgngpkbgcaa.F
open Go.RowKit Go.Proofs.Ytinbdgngpkbgcaa.Opened Go.Proofs.YtinbdgngpkbgcaaW.PrintWords Go.Proofs.YtinbdgngpkbgcaaW.PrintLast
set_option linter.unusedVariables false
set_option linter.unusedSimpArgs false

def conv87 (x : S87) : S85 := ⟨x.f0, x.f1, x.f2⟩
theorem laws_szSectionS.ok (l : List S87) (a : Int) (h : l.length ≤ 9223372036854775807) (h0 : 0 ≤ a) (h1 : a ≤ 1048576) : laws_szSectionS.f l a = some (if a - l.length < 0 then -1 else a - l.length) := by
  have e : wrap64 (a - (l.length : Int)) = a - l.length := by unfold wrap64; omega
  unfold laws_szSectionS.f
  rw [e]
  split <;> rfl
theorem laws_toSectionS.loop (x : List S87) (hm : x.length ≤ 1048576) : ∀ (d k : Nat) (acc : List S85) (n : Nat), n ≤ x.length → x.length - n = d → d < k → acc.length = x.length → acc.take n = (x.map conv87).take n → laws_toSectionS.l0 k x acc (n : Int) = some (x.map conv87) := by
  intro d
  induction d with
  | zero =>
    intro k acc n hn hd hk hl ha
    obtain ⟨k, rfl⟩ : ∃ m, k = m + 1 := ⟨k - 1, by omega⟩
    simp only [laws_toSectionS.l0]
    rw [if_neg (by omega)]
    have : n = x.length := by omega
    subst this
    rw [← hl, List.take_length, hl, ← List.length_map (f := conv87), List.take_length] at ha
    rw [ha]
  | succ d ih =>
    intro k acc n hn hd hk hl ha
    obtain ⟨k, rfl⟩ : ∃ m, k = m + 1 := ⟨k - 1, by omega⟩
    have hlt : n < x.length := by omega
    simp only [laws_toSectionS.l0, laws_toSection.f, Option.bind_some]
    rw [if_pos (by omega), if_pos (by omega), if_pos (by omega), w1 hlt (by omega), rdT87 x n hlt, Int.toNat_natCast]
    refine ih k _ (n + 1) (by omega) (by omega) (by omega) (by simpa using hl) ?_
    rw [set_take _ _ _ (by omega), ha, take_next (by simpa using hlt)]
    simp [conv87]
theorem laws_toSectionS.ok (x : List S87) (hm : x.length ≤ 1048576) (k : Nat) (hk : x.length < k) : laws_toSectionS.f k x = some (x.map conv87) := by
  unfold laws_toSectionS.f
  rw [if_pos (by omega), if_pos (by omega), Int.toNat_natCast]
  exact laws_toSectionS.loop x hm x.length k _ 0 (by omega) (by omega) hk (by simp) (by simp)
theorem laws_eqSection.same (v0 : Int) (v1 : Int) (v2 : Int) : laws_eqSection.f v0 v1 v2 v0 v1 v2 = some true := by simp [laws_eqSection.f]
theorem laws_eqSectionS.loop (x : List S85) (hm : x.length ≤ 9223372036854775807) : ∀ (d k : Nat) (n : Nat), n ≤ x.length → x.length - n = d → d < k → laws_eqSectionS.l0 k x x (n : Int) = some true := by
  intro d
  induction d with
  | zero =>
    intro k n hn hd hk
    obtain ⟨k, rfl⟩ : ∃ m, k = m + 1 := ⟨k - 1, by omega⟩
    simp only [laws_eqSectionS.l0]
    rw [if_neg (by omega)]
  | succ d ih =>
    intro k n hn hd hk
    obtain ⟨k, rfl⟩ : ∃ m, k = m + 1 := ⟨k - 1, by omega⟩
    have hlt : n < x.length := by omega
    simp only [laws_eqSectionS.l0, laws_eqSection.same, Option.bind_some]
    rw [if_pos (by omega), if_pos (by omega), w1 hlt hm]
    simp only [if_true]
    first
      | (rw [if_pos (by omega)]; exact ih k (n + 1) (by omega) (by omega) (by omega))
      | exact ih k (n + 1) (by omega) (by omega) (by omega)
theorem laws_eqSectionS.ok (x : List S85) (hm : x.length ≤ 9223372036854775807) (k : Nat) (hk : x.length < k) : laws_eqSectionS.f k x x = some true := by
  unfold laws_eqSectionS.f
  rw [if_pos rfl]
  exact laws_eqSectionS.loop x hm x.length k 0 (by omega) (by omega) hk

end Go.Proofs.Ytinbdgngpkbgcaa.F
