/- What the law's own helpers on lists of Event come to. -/
import Derived.Test.YtmacgllblbeegaaBase
import Derived.Test.YtmacgllblbeegaaF8
import Derived.Test.YtmacgllblbeegaaF2
import Derived.Test.YtmacgllblbeegaaF16
namespace Go.Proofs.Ytmacgllblbeegaa.F
open Go.RowKit Go.Proofs.Ytmacgllblbeegaa.Opened Go.Proofs.YtmacgllblbeegaaW.PrintWords Go.Proofs.YtmacgllblbeegaaW.PrintLast
set_option linter.unusedVariables false
set_option linter.unusedSimpArgs false

def conv34 (x : S34) : S37 := ⟨x.f0, x.f1, x.f2, x.f3⟩
theorem laws_szEventS.ok (l : List S34) (a : Int) (h : l.length ≤ 9223372036854775807) (h0 : 0 ≤ a) (h1 : a ≤ 1048576) : laws_szEventS.f l a = some (if a - l.length < 0 then -1 else a - l.length) := by
  have e : wrap64 (a - (l.length : Int)) = a - l.length := by unfold wrap64; omega
  unfold laws_szEventS.f
  rw [e]
  split <;> rfl
theorem laws_toEventS.loop (x : List S34) (hm : x.length ≤ 1048576) : ∀ (d k : Nat) (acc : List S37) (n : Nat), n ≤ x.length → x.length - n = d → d < k → acc.length = x.length → acc.take n = (x.map conv34).take n → laws_toEventS.l0 k x acc (n : Int) = some (x.map conv34) := by
  intro d
  induction d with
  | zero =>
    intro k acc n hn hd hk hl ha
    obtain ⟨k, rfl⟩ : ∃ m, k = m + 1 := ⟨k - 1, by omega⟩
    simp only [laws_toEventS.l0]
    rw [if_neg (by omega)]
    have : n = x.length := by omega
    subst this
    rw [← hl, List.take_length, hl, ← List.length_map (f := conv34), List.take_length] at ha
    rw [ha]
  | succ d ih =>
    intro k acc n hn hd hk hl ha
    obtain ⟨k, rfl⟩ : ∃ m, k = m + 1 := ⟨k - 1, by omega⟩
    have hlt : n < x.length := by omega
    simp only [laws_toEventS.l0, laws_toEvent.f, Option.bind_some]
    rw [if_pos (by omega), if_pos (by omega), if_pos (by omega), w1 hlt (by omega), rdT34 x n hlt, Int.toNat_natCast]
    refine ih k _ (n + 1) (by omega) (by omega) (by omega) (by simpa using hl) ?_
    rw [set_take _ _ _ (by omega), ha, take_next (by simpa using hlt)]
    simp [conv34]
theorem laws_toEventS.ok (x : List S34) (hm : x.length ≤ 1048576) (k : Nat) (hk : x.length < k) : laws_toEventS.f k x = some (x.map conv34) := by
  unfold laws_toEventS.f
  rw [if_pos (by omega), if_pos (by omega), Int.toNat_natCast]
  exact laws_toEventS.loop x hm x.length k _ 0 (by omega) (by omega) hk (by simp) (by simp)
theorem laws_eqEvent.same (v0 : Int) (v1 : Int) (v2 : Int) (v3 : Int) : laws_eqEvent.f v0 v1 v2 v3 v0 v1 v2 v3 = some true := by simp [laws_eqEvent.f]
theorem laws_eqEventS.loop (x : List S37) (hm : x.length ≤ 9223372036854775807) : ∀ (d k : Nat) (n : Nat), n ≤ x.length → x.length - n = d → d < k → laws_eqEventS.l0 k x x (n : Int) = some true := by
  intro d
  induction d with
  | zero =>
    intro k n hn hd hk
    obtain ⟨k, rfl⟩ : ∃ m, k = m + 1 := ⟨k - 1, by omega⟩
    simp only [laws_eqEventS.l0]
    rw [if_neg (by omega)]
  | succ d ih =>
    intro k n hn hd hk
    obtain ⟨k, rfl⟩ : ∃ m, k = m + 1 := ⟨k - 1, by omega⟩
    have hlt : n < x.length := by omega
    simp only [laws_eqEventS.l0, laws_eqEvent.same, Option.bind_some]
    rw [if_pos (by omega), if_pos (by omega), w1 hlt hm]
    simp only [if_true]
    first
      | (rw [if_pos (by omega)]; exact ih k (n + 1) (by omega) (by omega) (by omega))
      | exact ih k (n + 1) (by omega) (by omega) (by omega)
theorem laws_eqEventS.ok (x : List S37) (hm : x.length ≤ 9223372036854775807) (k : Nat) (hk : x.length < k) : laws_eqEventS.f k x x = some true := by
  unfold laws_eqEventS.f
  rw [if_pos rfl]
  exact laws_eqEventS.loop x hm x.length k 0 (by omega) (by omega) hk

end Go.Proofs.Ytmacgllblbeegaa.F
