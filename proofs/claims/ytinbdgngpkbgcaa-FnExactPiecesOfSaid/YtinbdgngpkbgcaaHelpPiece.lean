/- What the law's own helpers on lists of Piece come to. -/
import Derived.Test.YtinbdgngpkbgcaaBase
import Derived.Test.YtinbdgngpkbgcaaF89
import Derived.Test.YtinbdgngpkbgcaaF86
import Derived.Test.YtinbdgngpkbgcaaF82
namespace Go.Proofs.Ytinbdgngpkbgcaa.F
open Go.RowKit Go.Proofs.Ytinbdgngpkbgcaa.Opened Go.Proofs.YtinbdgngpkbgcaaW.PrintWords Go.Proofs.YtinbdgngpkbgcaaW.PrintLast
set_option linter.unusedVariables false
set_option linter.unusedSimpArgs false

def conv100 (x : S100) : S97 := ⟨x.f0, x.f1, x.f2⟩
theorem laws_szPieceS.ok (l : List S100) (a : Int) (h : l.length ≤ 9223372036854775807) (h0 : 0 ≤ a) (h1 : a ≤ 1048576) : laws_szPieceS.f l a = some (if a - l.length < 0 then -1 else a - l.length) := by
  have e : wrap64 (a - (l.length : Int)) = a - l.length := by unfold wrap64; omega
  unfold laws_szPieceS.f
  rw [e]
  split <;> rfl
theorem laws_toPieceS.loop (x : List S100) (hm : x.length ≤ 1048576) : ∀ (d k : Nat) (acc : List S97) (n : Nat), n ≤ x.length → x.length - n = d → d < k → acc.length = x.length → acc.take n = (x.map conv100).take n → laws_toPieceS.l0 k x acc (n : Int) = some (x.map conv100) := by
  intro d
  induction d with
  | zero =>
    intro k acc n hn hd hk hl ha
    obtain ⟨k, rfl⟩ : ∃ m, k = m + 1 := ⟨k - 1, by omega⟩
    simp only [laws_toPieceS.l0]
    rw [if_neg (by omega)]
    have : n = x.length := by omega
    subst this
    rw [← hl, List.take_length, hl, ← List.length_map (f := conv100), List.take_length] at ha
    rw [ha]
  | succ d ih =>
    intro k acc n hn hd hk hl ha
    obtain ⟨k, rfl⟩ : ∃ m, k = m + 1 := ⟨k - 1, by omega⟩
    have hlt : n < x.length := by omega
    simp only [laws_toPieceS.l0, laws_toPiece.f, Option.bind_some]
    rw [if_pos (by omega), if_pos (by omega), if_pos (by omega), w1 hlt (by omega), rdT100 x n hlt, Int.toNat_natCast]
    refine ih k _ (n + 1) (by omega) (by omega) (by omega) (by simpa using hl) ?_
    rw [set_take _ _ _ (by omega), ha, take_next (by simpa using hlt)]
    simp [conv100]
theorem laws_toPieceS.ok (x : List S100) (hm : x.length ≤ 1048576) (k : Nat) (hk : x.length < k) : laws_toPieceS.f k x = some (x.map conv100) := by
  unfold laws_toPieceS.f
  rw [if_pos (by omega), if_pos (by omega), Int.toNat_natCast]
  exact laws_toPieceS.loop x hm x.length k _ 0 (by omega) (by omega) hk (by simp) (by simp)
theorem laws_eqPiece.same (v0 : Int) (v1 : Int) (v2 : Bool) : laws_eqPiece.f v0 v1 v2 v0 v1 v2 = some true := by simp [laws_eqPiece.f]
theorem laws_eqPieceS.loop (x : List S97) (hm : x.length ≤ 9223372036854775807) : ∀ (d k : Nat) (n : Nat), n ≤ x.length → x.length - n = d → d < k → laws_eqPieceS.l0 k x x (n : Int) = some true := by
  intro d
  induction d with
  | zero =>
    intro k n hn hd hk
    obtain ⟨k, rfl⟩ : ∃ m, k = m + 1 := ⟨k - 1, by omega⟩
    simp only [laws_eqPieceS.l0]
    rw [if_neg (by omega)]
  | succ d ih =>
    intro k n hn hd hk
    obtain ⟨k, rfl⟩ : ∃ m, k = m + 1 := ⟨k - 1, by omega⟩
    have hlt : n < x.length := by omega
    simp only [laws_eqPieceS.l0, laws_eqPiece.same, Option.bind_some]
    rw [if_pos (by omega), if_pos (by omega), w1 hlt hm]
    simp only [if_true]
    first
      | (rw [if_pos (by omega)]; exact ih k (n + 1) (by omega) (by omega) (by omega))
      | exact ih k (n + 1) (by omega) (by omega) (by omega)
theorem laws_eqPieceS.ok (x : List S97) (hm : x.length ≤ 9223372036854775807) (k : Nat) (hk : x.length < k) : laws_eqPieceS.f k x x = some true := by
  unfold laws_eqPieceS.f
  rw [if_pos rfl]
  exact laws_eqPieceS.loop x hm x.length k 0 (by omega) (by omega) hk

end Go.Proofs.Ytinbdgngpkbgcaa.F
