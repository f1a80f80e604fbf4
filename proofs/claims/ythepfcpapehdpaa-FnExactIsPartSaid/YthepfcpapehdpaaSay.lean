/- What the arguments of this seat's laws are read as, and the pure statement of each law. -/
import Derived.Test.YthepfcpapehdpaaOpened
import Derived.Test.YthepfcpapehdpaaF0
namespace Go.Proofs.Ythepfcpapehdpaa.F
open Go.ChangeShapes Go.WideShapes Go.Deep Go.RowKit Go.Joins Go.Proofs.YthepfcpapehdpaaW.PrintWords Go.Proofs.Ythepfcpapehdpaa.Opened
set_option linter.unusedVariables false

def Good72 (x : S72) : Prop := I64 x.f0 ∧ I64 x.f1
theorem hk72 {H : Type} {enc : TypeId × Value → H} {w : World} {base : Nat} {spare : Nat → Bool} {held : Bool} {fs : Array Field} (hfs : Try.prog.underlying 72 = some (.struct fs)) (vs : List Value) (h : Fits enc Try.prog w base spare held fs vs) : ∃ x : S72, Good72 x ∧ k72.K w x vs := by
  rw [Try.underlying72] at hfs
  obtain rfl := TypeDesc.struct.inj (Option.some.inj hfs)
  obtain ⟨n0, e0, g0⟩ := h.int (j := 0) rfl Try.underlying3
  obtain ⟨n1, e1, g1⟩ := h.int (j := 1) rfl Try.underlying3
  obtain rfl := list2 (by rw [h.1]; rfl) e0 e1
  exact ⟨⟨n0, n1⟩, ⟨g0, g1⟩, k72_mk w ⟨n0, n1⟩⟩
def Good70 (x : S70) : Prop := I64 x.f0 ∧ I64 x.f1
theorem hk70 {H : Type} {enc : TypeId × Value → H} {w : World} {base : Nat} {spare : Nat → Bool} {held : Bool} {fs : Array Field} (hfs : Try.prog.underlying 70 = some (.struct fs)) (vs : List Value) (h : Fits enc Try.prog w base spare held fs vs) : ∃ x : S70, Good70 x ∧ k70.K w x vs := by
  rw [Try.underlying70] at hfs
  obtain rfl := TypeDesc.struct.inj (Option.some.inj hfs)
  obtain ⟨n0, e0, g0⟩ := h.int (j := 0) rfl Try.underlying3
  obtain ⟨n1, e1, g1⟩ := h.int (j := 1) rfl Try.underlying3
  obtain rfl := list2 (by rw [h.1]; rfl) e0 e1
  exact ⟨⟨n0, n1⟩, ⟨g0, g1⟩, k70_mk w ⟨n0, n1⟩⟩
def Good77 (x : S77) : Prop := I64 x.f0 ∧ I64 x.f1
theorem hk77 {H : Type} {enc : TypeId × Value → H} {w : World} {base : Nat} {spare : Nat → Bool} {held : Bool} {fs : Array Field} (hfs : Try.prog.underlying 77 = some (.struct fs)) (vs : List Value) (h : Fits enc Try.prog w base spare held fs vs) : ∃ x : S77, Good77 x ∧ k77.K w x vs := by
  rw [Try.underlying77] at hfs
  obtain rfl := TypeDesc.struct.inj (Option.some.inj hfs)
  obtain ⟨n0, e0, g0⟩ := h.int (j := 0) rfl Try.underlying3
  obtain ⟨n1, e1, g1⟩ := h.int (j := 1) rfl Try.underlying3
  obtain rfl := list2 (by rw [h.1]; rfl) e0 e1
  exact ⟨⟨n0, n1⟩, ⟨g0, g1⟩, k77_mk w ⟨n0, n1⟩⟩
def Good75 (x : S75) : Prop := I64 x.f0 ∧ I64 x.f1
theorem hk75 {H : Type} {enc : TypeId × Value → H} {w : World} {base : Nat} {spare : Nat → Bool} {held : Bool} {fs : Array Field} (hfs : Try.prog.underlying 75 = some (.struct fs)) (vs : List Value) (h : Fits enc Try.prog w base spare held fs vs) : ∃ x : S75, Good75 x ∧ k75.K w x vs := by
  rw [Try.underlying75] at hfs
  obtain rfl := TypeDesc.struct.inj (Option.some.inj hfs)
  obtain ⟨n0, e0, g0⟩ := h.int (j := 0) rfl Try.underlying3
  obtain ⟨n1, e1, g1⟩ := h.int (j := 1) rfl Try.underlying3
  obtain rfl := list2 (by rw [h.1]; rfl) e0 e1
  exact ⟨⟨n0, n1⟩, ⟨g0, g1⟩, k75_mk w ⟨n0, n1⟩⟩
def Good82 (x : S82) : Prop := I64 x.f0 ∧ I64 x.f1 ∧ I64 x.f2
theorem hk82 {H : Type} {enc : TypeId × Value → H} {w : World} {base : Nat} {spare : Nat → Bool} {held : Bool} {fs : Array Field} (hfs : Try.prog.underlying 82 = some (.struct fs)) (vs : List Value) (h : Fits enc Try.prog w base spare held fs vs) : ∃ x : S82, Good82 x ∧ k82.K w x vs := by
  rw [Try.underlying82] at hfs
  obtain rfl := TypeDesc.struct.inj (Option.some.inj hfs)
  obtain ⟨n0, e0, g0⟩ := h.int (j := 0) rfl Try.underlying3
  obtain ⟨n1, e1, g1⟩ := h.int (j := 1) rfl Try.underlying3
  obtain ⟨n2, e2, g2⟩ := h.int (j := 2) rfl Try.underlying3
  obtain rfl := list3 (by rw [h.1]; rfl) e0 e1 e2
  exact ⟨⟨n0, n1, n2⟩, ⟨g0, g1, g2⟩, k82_mk w ⟨n0, n1, n2⟩⟩
def Good80 (x : S80) : Prop := I64 x.f0 ∧ I64 x.f1 ∧ I64 x.f2
theorem hk80 {H : Type} {enc : TypeId × Value → H} {w : World} {base : Nat} {spare : Nat → Bool} {held : Bool} {fs : Array Field} (hfs : Try.prog.underlying 80 = some (.struct fs)) (vs : List Value) (h : Fits enc Try.prog w base spare held fs vs) : ∃ x : S80, Good80 x ∧ k80.K w x vs := by
  rw [Try.underlying80] at hfs
  obtain rfl := TypeDesc.struct.inj (Option.some.inj hfs)
  obtain ⟨n0, e0, g0⟩ := h.int (j := 0) rfl Try.underlying3
  obtain ⟨n1, e1, g1⟩ := h.int (j := 1) rfl Try.underlying3
  obtain ⟨n2, e2, g2⟩ := h.int (j := 2) rfl Try.underlying3
  obtain rfl := list3 (by rw [h.1]; rfl) e0 e1 e2
  exact ⟨⟨n0, n1, n2⟩, ⟨g0, g1, g2⟩, k80_mk w ⟨n0, n1, n2⟩⟩
def Good88 (x : S88) : Prop := I64 x.f0 ∧ I64 x.f1 ∧ I64 x.f2 ∧ I64 x.f3
theorem hk88 {H : Type} {enc : TypeId × Value → H} {w : World} {base : Nat} {spare : Nat → Bool} {held : Bool} {fs : Array Field} (hfs : Try.prog.underlying 88 = some (.struct fs)) (vs : List Value) (h : Fits enc Try.prog w base spare held fs vs) : ∃ x : S88, Good88 x ∧ k88.K w x vs := by
  rw [Try.underlying88] at hfs
  obtain rfl := TypeDesc.struct.inj (Option.some.inj hfs)
  obtain ⟨n0, e0, g0⟩ := h.int (j := 0) rfl Try.underlying3
  obtain ⟨n1, e1, g1⟩ := h.int (j := 1) rfl Try.underlying3
  obtain ⟨n2, e2, g2⟩ := h.int (j := 2) rfl Try.underlying3
  obtain ⟨n3, e3, g3⟩ := h.int (j := 3) rfl Try.underlying3
  obtain rfl := list4 (by rw [h.1]; rfl) e0 e1 e2 e3
  exact ⟨⟨n0, n1, n2, n3⟩, ⟨g0, g1, g2, g3⟩, k88_mk w ⟨n0, n1, n2, n3⟩⟩
def Good86 (x : S86) : Prop := I64 x.f0 ∧ I64 x.f1 ∧ I64 x.f2 ∧ I64 x.f3
theorem hk86 {H : Type} {enc : TypeId × Value → H} {w : World} {base : Nat} {spare : Nat → Bool} {held : Bool} {fs : Array Field} (hfs : Try.prog.underlying 86 = some (.struct fs)) (vs : List Value) (h : Fits enc Try.prog w base spare held fs vs) : ∃ x : S86, Good86 x ∧ k86.K w x vs := by
  rw [Try.underlying86] at hfs
  obtain rfl := TypeDesc.struct.inj (Option.some.inj hfs)
  obtain ⟨n0, e0, g0⟩ := h.int (j := 0) rfl Try.underlying3
  obtain ⟨n1, e1, g1⟩ := h.int (j := 1) rfl Try.underlying3
  obtain ⟨n2, e2, g2⟩ := h.int (j := 2) rfl Try.underlying3
  obtain ⟨n3, e3, g3⟩ := h.int (j := 3) rfl Try.underlying3
  obtain rfl := list4 (by rw [h.1]; rfl) e0 e1 e2 e3
  exact ⟨⟨n0, n1, n2, n3⟩, ⟨g0, g1, g2, g3⟩, k86_mk w ⟨n0, n1, n2, n3⟩⟩
end Go.Proofs.Ythepfcpapehdpaa.F
