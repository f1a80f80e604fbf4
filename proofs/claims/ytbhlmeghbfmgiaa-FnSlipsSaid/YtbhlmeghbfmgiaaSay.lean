/- What the arguments of this seat's laws are read as, and the pure statement of each law. -/
import Derived.Test.YtbhlmeghbfmgiaaOpened
import Derived.Test.YtbhlmeghbfmgiaaF0
namespace Go.Proofs.Ytbhlmeghbfmgiaa.F
open Go.ChangeShapes Go.WideShapes Go.Deep Go.RowKit Go.Joins Go.Proofs.YtbhlmeghbfmgiaaW.PrintWords Go.Proofs.Ytbhlmeghbfmgiaa.Opened
set_option linter.unusedVariables false

def Good26 (x : S26) : Prop := I64 x.f0 ∧ I64 x.f1 ∧ I64 x.f2 ∧ I64 x.f3
theorem hk26 {H : Type} {enc : TypeId × Value → H} {w : World} {base : Nat} {spare : Nat → Bool} {held : Bool} {fs : Array Field} (hfs : Try.prog.underlying 26 = some (.struct fs)) (vs : List Value) (h : Fits enc Try.prog w base spare held fs vs) : ∃ x : S26, Good26 x ∧ k26.K w x vs := by
  rw [Try.underlying26] at hfs
  obtain rfl := TypeDesc.struct.inj (Option.some.inj hfs)
  obtain ⟨n0, e0, g0⟩ := h.int (j := 0) rfl Try.underlying3
  obtain ⟨n1, e1, g1⟩ := h.int (j := 1) rfl Try.underlying3
  obtain ⟨n2, e2, g2⟩ := h.int (j := 2) rfl Try.underlying3
  obtain ⟨n3, e3, g3⟩ := h.int (j := 3) rfl Try.underlying3
  obtain rfl := list4 (by rw [h.1]; rfl) e0 e1 e2 e3
  exact ⟨⟨n0, n1, n2, n3⟩, ⟨g0, g1, g2, g3⟩, k26_mk w ⟨n0, n1, n2, n3⟩⟩
def Good151 (x : S151) : Prop := I64 x.f0 ∧ I64 x.f1
theorem hk151 {H : Type} {enc : TypeId × Value → H} {w : World} {base : Nat} {spare : Nat → Bool} {held : Bool} {fs : Array Field} (hfs : Try.prog.underlying 151 = some (.struct fs)) (vs : List Value) (h : Fits enc Try.prog w base spare held fs vs) : ∃ x : S151, Good151 x ∧ k151.K w x vs := by
  rw [Try.underlying151] at hfs
  obtain rfl := TypeDesc.struct.inj (Option.some.inj hfs)
  obtain ⟨n0, e0, g0⟩ := h.int (j := 0) rfl Try.underlying3
  obtain ⟨n1, e1, g1⟩ := h.int (j := 1) rfl Try.underlying3
  obtain rfl := list2 (by rw [h.1]; rfl) e0 e1
  exact ⟨⟨n0, n1⟩, ⟨g0, g1⟩, k151_mk w ⟨n0, n1⟩⟩
def Good49 (x : S49) : Prop := I64 x.f0 ∧ I64 x.f1
theorem hk49 {H : Type} {enc : TypeId × Value → H} {w : World} {base : Nat} {spare : Nat → Bool} {held : Bool} {fs : Array Field} (hfs : Try.prog.underlying 49 = some (.struct fs)) (vs : List Value) (h : Fits enc Try.prog w base spare held fs vs) : ∃ x : S49, Good49 x ∧ k49.K w x vs := by
  rw [Try.underlying49] at hfs
  obtain rfl := TypeDesc.struct.inj (Option.some.inj hfs)
  obtain ⟨n0, e0, g0⟩ := h.int (j := 0) rfl Try.underlying3
  obtain ⟨n1, e1, g1⟩ := h.int (j := 1) rfl Try.underlying3
  obtain rfl := list2 (by rw [h.1]; rfl) e0 e1
  exact ⟨⟨n0, n1⟩, ⟨g0, g1⟩, k49_mk w ⟨n0, n1⟩⟩
def Good63 (x : S63) : Prop := I64 x.f0 ∧ I64 x.f1 ∧ I64 x.f2
theorem hk63 {H : Type} {enc : TypeId × Value → H} {w : World} {base : Nat} {spare : Nat → Bool} {held : Bool} {fs : Array Field} (hfs : Try.prog.underlying 63 = some (.struct fs)) (vs : List Value) (h : Fits enc Try.prog w base spare held fs vs) : ∃ x : S63, Good63 x ∧ k63.K w x vs := by
  rw [Try.underlying63] at hfs
  obtain rfl := TypeDesc.struct.inj (Option.some.inj hfs)
  obtain ⟨n0, e0, g0⟩ := h.int (j := 0) rfl Try.underlying3
  obtain ⟨n1, e1, g1⟩ := h.int (j := 1) rfl Try.underlying3
  obtain ⟨n2, e2, g2⟩ := h.int (j := 2) rfl Try.underlying3
  obtain rfl := list3 (by rw [h.1]; rfl) e0 e1 e2
  exact ⟨⟨n0, n1, n2⟩, ⟨g0, g1, g2⟩, k63_mk w ⟨n0, n1, n2⟩⟩
def Good86 (x : S86) : Prop := I64 x.f0 ∧ I64 x.f1
theorem hk86 {H : Type} {enc : TypeId × Value → H} {w : World} {base : Nat} {spare : Nat → Bool} {held : Bool} {fs : Array Field} (hfs : Try.prog.underlying 86 = some (.struct fs)) (vs : List Value) (h : Fits enc Try.prog w base spare held fs vs) : ∃ x : S86, Good86 x ∧ k86.K w x vs := by
  rw [Try.underlying86] at hfs
  obtain rfl := TypeDesc.struct.inj (Option.some.inj hfs)
  obtain ⟨n0, e0, g0⟩ := h.int (j := 0) rfl Try.underlying3
  obtain ⟨n1, e1, g1⟩ := h.int (j := 1) rfl Try.underlying3
  obtain ⟨n2, e2⟩ := h.bool (j := 2) rfl Try.underlying4
  obtain rfl := list3 (by rw [h.1]; rfl) e0 e1 e2
  exact ⟨⟨n0, n1, n2⟩, ⟨g0, g1⟩, k86_mk w ⟨n0, n1, n2⟩⟩
def Good111 (x : S111) : Prop := I64 x.f0 ∧ I64 x.f1 ∧ I64 x.f2
theorem hk111 {H : Type} {enc : TypeId × Value → H} {w : World} {base : Nat} {spare : Nat → Bool} {held : Bool} {fs : Array Field} (hfs : Try.prog.underlying 111 = some (.struct fs)) (vs : List Value) (h : Fits enc Try.prog w base spare held fs vs) : ∃ x : S111, Good111 x ∧ k111.K w x vs := by
  rw [Try.underlying111] at hfs
  obtain rfl := TypeDesc.struct.inj (Option.some.inj hfs)
  obtain ⟨n0, e0, g0⟩ := h.int (j := 0) rfl Try.underlying3
  obtain ⟨n1, e1, g1⟩ := h.int (j := 1) rfl Try.underlying3
  obtain ⟨n2, e2, g2⟩ := h.int (j := 2) rfl Try.underlying3
  obtain rfl := list3 (by rw [h.1]; rfl) e0 e1 e2
  exact ⟨⟨n0, n1, n2⟩, ⟨g0, g1, g2⟩, k111_mk w ⟨n0, n1, n2⟩⟩
end Go.Proofs.Ytbhlmeghbfmgiaa.F
