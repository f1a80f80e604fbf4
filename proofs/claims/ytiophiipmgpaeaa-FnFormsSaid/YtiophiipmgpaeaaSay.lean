/- What the arguments of this seat's laws are read as, and the pure statement of each law. -/
import Derived.Test.YtiophiipmgpaeaaOpened
import Derived.Test.YtiophiipmgpaeaaF0
namespace Go.Proofs.Ytiophiipmgpaeaa.F
open Go.ChangeShapes Go.WideShapes Go.Deep Go.RowKit Go.Joins Go.Proofs.YtiophiipmgpaeaaW.PrintWords Go.Proofs.Ytiophiipmgpaeaa.Opened
set_option linter.unusedVariables false

def Good105 (x : S105) : Prop := I64 x.f0 ∧ I64 x.f1 ∧ I64 x.f2
theorem hk105 {H : Type} {enc : TypeId × Value → H} {w : World} {base : Nat} {spare : Nat → Bool} {held : Bool} {fs : Array Field} (hfs : Try.prog.underlying 105 = some (.struct fs)) (vs : List Value) (h : Fits enc Try.prog w base spare held fs vs) : ∃ x : S105, Good105 x ∧ k105.K w x vs := by
  rw [Try.underlying105] at hfs
  obtain rfl := TypeDesc.struct.inj (Option.some.inj hfs)
  obtain ⟨n0, e0, g0⟩ := h.int (j := 0) rfl Try.underlying3
  obtain ⟨n1, e1, g1⟩ := h.int (j := 1) rfl Try.underlying3
  obtain ⟨n2, e2, g2⟩ := h.int (j := 2) rfl Try.underlying3
  obtain rfl := list3 (by rw [h.1]; rfl) e0 e1 e2
  exact ⟨⟨n0, n1, n2⟩, ⟨g0, g1, g2⟩, k105_mk w ⟨n0, n1, n2⟩⟩
def Good103 (x : S103) : Prop := I64 x.f0 ∧ I64 x.f1 ∧ I64 x.f2
theorem hk103 {H : Type} {enc : TypeId × Value → H} {w : World} {base : Nat} {spare : Nat → Bool} {held : Bool} {fs : Array Field} (hfs : Try.prog.underlying 103 = some (.struct fs)) (vs : List Value) (h : Fits enc Try.prog w base spare held fs vs) : ∃ x : S103, Good103 x ∧ k103.K w x vs := by
  rw [Try.underlying103] at hfs
  obtain rfl := TypeDesc.struct.inj (Option.some.inj hfs)
  obtain ⟨n0, e0, g0⟩ := h.int (j := 0) rfl Try.underlying3
  obtain ⟨n1, e1, g1⟩ := h.int (j := 1) rfl Try.underlying3
  obtain ⟨n2, e2, g2⟩ := h.int (j := 2) rfl Try.underlying3
  obtain rfl := list3 (by rw [h.1]; rfl) e0 e1 e2
  exact ⟨⟨n0, n1, n2⟩, ⟨g0, g1, g2⟩, k103_mk w ⟨n0, n1, n2⟩⟩
def Good111 (x : S111) : Prop := I64 x.f0 ∧ I64 x.f1
theorem hk111 {H : Type} {enc : TypeId × Value → H} {w : World} {base : Nat} {spare : Nat → Bool} {held : Bool} {fs : Array Field} (hfs : Try.prog.underlying 111 = some (.struct fs)) (vs : List Value) (h : Fits enc Try.prog w base spare held fs vs) : ∃ x : S111, Good111 x ∧ k111.K w x vs := by
  rw [Try.underlying111] at hfs
  obtain rfl := TypeDesc.struct.inj (Option.some.inj hfs)
  obtain ⟨n0, e0, g0⟩ := h.int (j := 0) rfl Try.underlying3
  obtain ⟨n1, e1, g1⟩ := h.int (j := 1) rfl Try.underlying3
  obtain rfl := list2 (by rw [h.1]; rfl) e0 e1
  exact ⟨⟨n0, n1⟩, ⟨g0, g1⟩, k111_mk w ⟨n0, n1⟩⟩
def Good109 (x : S109) : Prop := I64 x.f0 ∧ I64 x.f1
theorem hk109 {H : Type} {enc : TypeId × Value → H} {w : World} {base : Nat} {spare : Nat → Bool} {held : Bool} {fs : Array Field} (hfs : Try.prog.underlying 109 = some (.struct fs)) (vs : List Value) (h : Fits enc Try.prog w base spare held fs vs) : ∃ x : S109, Good109 x ∧ k109.K w x vs := by
  rw [Try.underlying109] at hfs
  obtain rfl := TypeDesc.struct.inj (Option.some.inj hfs)
  obtain ⟨n0, e0, g0⟩ := h.int (j := 0) rfl Try.underlying3
  obtain ⟨n1, e1, g1⟩ := h.int (j := 1) rfl Try.underlying3
  obtain rfl := list2 (by rw [h.1]; rfl) e0 e1
  exact ⟨⟨n0, n1⟩, ⟨g0, g1⟩, k109_mk w ⟨n0, n1⟩⟩
def Good120 (x : S120) : Prop := I64 x.f0 ∧ I64 x.f1 ∧ I64 x.f2
theorem hk120 {H : Type} {enc : TypeId × Value → H} {w : World} {base : Nat} {spare : Nat → Bool} {held : Bool} {fs : Array Field} (hfs : Try.prog.underlying 120 = some (.struct fs)) (vs : List Value) (h : Fits enc Try.prog w base spare held fs vs) : ∃ x : S120, Good120 x ∧ k120.K w x vs := by
  rw [Try.underlying120] at hfs
  obtain rfl := TypeDesc.struct.inj (Option.some.inj hfs)
  obtain ⟨n0, e0, g0⟩ := h.int (j := 0) rfl Try.underlying3
  obtain ⟨n1, e1, g1⟩ := h.int (j := 1) rfl Try.underlying3
  obtain ⟨n2, e2, g2⟩ := h.int (j := 2) rfl Try.underlying3
  obtain rfl := list3 (by rw [h.1]; rfl) e0 e1 e2
  exact ⟨⟨n0, n1, n2⟩, ⟨g0, g1, g2⟩, k120_mk w ⟨n0, n1, n2⟩⟩
def Good116 (x : S116) : Prop := I64 x.f0 ∧ I64 x.f1 ∧ I64 x.f2
theorem hk116 {H : Type} {enc : TypeId × Value → H} {w : World} {base : Nat} {spare : Nat → Bool} {held : Bool} {fs : Array Field} (hfs : Try.prog.underlying 116 = some (.struct fs)) (vs : List Value) (h : Fits enc Try.prog w base spare held fs vs) : ∃ x : S116, Good116 x ∧ k116.K w x vs := by
  rw [Try.underlying116] at hfs
  obtain rfl := TypeDesc.struct.inj (Option.some.inj hfs)
  obtain ⟨n0, e0, g0⟩ := h.int (j := 0) rfl Try.underlying3
  obtain ⟨n1, e1, g1⟩ := h.int (j := 1) rfl Try.underlying3
  obtain ⟨n2, e2, g2⟩ := h.int (j := 2) rfl Try.underlying3
  obtain rfl := list3 (by rw [h.1]; rfl) e0 e1 e2
  exact ⟨⟨n0, n1, n2⟩, ⟨g0, g1, g2⟩, k116_mk w ⟨n0, n1, n2⟩⟩
def Good118 (x : S118) : Prop := I64 x.f0 ∧ I64 x.f1 ∧ I64 x.f2 ∧ I64 x.f3
theorem hk118 {H : Type} {enc : TypeId × Value → H} {w : World} {base : Nat} {spare : Nat → Bool} {held : Bool} {fs : Array Field} (hfs : Try.prog.underlying 118 = some (.struct fs)) (vs : List Value) (h : Fits enc Try.prog w base spare held fs vs) : ∃ x : S118, Good118 x ∧ k118.K w x vs := by
  rw [Try.underlying118] at hfs
  obtain rfl := TypeDesc.struct.inj (Option.some.inj hfs)
  obtain ⟨n0, e0, g0⟩ := h.int (j := 0) rfl Try.underlying3
  obtain ⟨n1, e1, g1⟩ := h.int (j := 1) rfl Try.underlying3
  obtain ⟨n2, e2, g2⟩ := h.int (j := 2) rfl Try.underlying3
  obtain ⟨n3, e3, g3⟩ := h.int (j := 3) rfl Try.underlying3
  obtain rfl := list4 (by rw [h.1]; rfl) e0 e1 e2 e3
  exact ⟨⟨n0, n1, n2, n3⟩, ⟨g0, g1, g2, g3⟩, k118_mk w ⟨n0, n1, n2, n3⟩⟩
def Good126 (x : S126) : Prop := I64 x.f0 ∧ I64 x.f1 ∧ I64 x.f2 ∧ I64 x.f3
theorem hk126 {H : Type} {enc : TypeId × Value → H} {w : World} {base : Nat} {spare : Nat → Bool} {held : Bool} {fs : Array Field} (hfs : Try.prog.underlying 126 = some (.struct fs)) (vs : List Value) (h : Fits enc Try.prog w base spare held fs vs) : ∃ x : S126, Good126 x ∧ k126.K w x vs := by
  rw [Try.underlying126] at hfs
  obtain rfl := TypeDesc.struct.inj (Option.some.inj hfs)
  obtain ⟨n0, e0, g0⟩ := h.int (j := 0) rfl Try.underlying3
  obtain ⟨n1, e1, g1⟩ := h.int (j := 1) rfl Try.underlying3
  obtain ⟨n2, e2, g2⟩ := h.int (j := 2) rfl Try.underlying3
  obtain ⟨n3, e3, g3⟩ := h.int (j := 3) rfl Try.underlying3
  obtain rfl := list4 (by rw [h.1]; rfl) e0 e1 e2 e3
  exact ⟨⟨n0, n1, n2, n3⟩, ⟨g0, g1, g2, g3⟩, k126_mk w ⟨n0, n1, n2, n3⟩⟩
def Good142 (x : S142) : Prop := I64 x.f0 ∧ I64 x.f1
theorem hk142 {H : Type} {enc : TypeId × Value → H} {w : World} {base : Nat} {spare : Nat → Bool} {held : Bool} {fs : Array Field} (hfs : Try.prog.underlying 142 = some (.struct fs)) (vs : List Value) (h : Fits enc Try.prog w base spare held fs vs) : ∃ x : S142, Good142 x ∧ k142.K w x vs := by
  rw [Try.underlying142] at hfs
  obtain rfl := TypeDesc.struct.inj (Option.some.inj hfs)
  obtain ⟨n0, e0, g0⟩ := h.int (j := 0) rfl Try.underlying3
  obtain ⟨n1, e1, g1⟩ := h.int (j := 1) rfl Try.underlying3
  obtain rfl := list2 (by rw [h.1]; rfl) e0 e1
  exact ⟨⟨n0, n1⟩, ⟨g0, g1⟩, k142_mk w ⟨n0, n1⟩⟩
def Good140 (x : S140) : Prop := I64 x.f0 ∧ I64 x.f1
theorem hk140 {H : Type} {enc : TypeId × Value → H} {w : World} {base : Nat} {spare : Nat → Bool} {held : Bool} {fs : Array Field} (hfs : Try.prog.underlying 140 = some (.struct fs)) (vs : List Value) (h : Fits enc Try.prog w base spare held fs vs) : ∃ x : S140, Good140 x ∧ k140.K w x vs := by
  rw [Try.underlying140] at hfs
  obtain rfl := TypeDesc.struct.inj (Option.some.inj hfs)
  obtain ⟨n0, e0, g0⟩ := h.int (j := 0) rfl Try.underlying3
  obtain ⟨n1, e1, g1⟩ := h.int (j := 1) rfl Try.underlying3
  obtain rfl := list2 (by rw [h.1]; rfl) e0 e1
  exact ⟨⟨n0, n1⟩, ⟨g0, g1⟩, k140_mk w ⟨n0, n1⟩⟩
def Good154 (x : S154) : Prop := I64 x.f0 ∧ I64 x.f1 ∧ I64 x.f2
theorem hk154 {H : Type} {enc : TypeId × Value → H} {w : World} {base : Nat} {spare : Nat → Bool} {held : Bool} {fs : Array Field} (hfs : Try.prog.underlying 154 = some (.struct fs)) (vs : List Value) (h : Fits enc Try.prog w base spare held fs vs) : ∃ x : S154, Good154 x ∧ k154.K w x vs := by
  rw [Try.underlying154] at hfs
  obtain rfl := TypeDesc.struct.inj (Option.some.inj hfs)
  obtain ⟨n0, e0, g0⟩ := h.int (j := 0) rfl Try.underlying3
  obtain ⟨n1, e1, g1⟩ := h.int (j := 1) rfl Try.underlying3
  obtain ⟨n2, e2, g2⟩ := h.int (j := 2) rfl Try.underlying3
  obtain rfl := list3 (by rw [h.1]; rfl) e0 e1 e2
  exact ⟨⟨n0, n1, n2⟩, ⟨g0, g1, g2⟩, k154_mk w ⟨n0, n1, n2⟩⟩
def Good152 (x : S152) : Prop := I64 x.f0 ∧ I64 x.f1
theorem hk152 {H : Type} {enc : TypeId × Value → H} {w : World} {base : Nat} {spare : Nat → Bool} {held : Bool} {fs : Array Field} (hfs : Try.prog.underlying 152 = some (.struct fs)) (vs : List Value) (h : Fits enc Try.prog w base spare held fs vs) : ∃ x : S152, Good152 x ∧ k152.K w x vs := by
  rw [Try.underlying152] at hfs
  obtain rfl := TypeDesc.struct.inj (Option.some.inj hfs)
  obtain ⟨n0, e0, g0⟩ := h.int (j := 0) rfl Try.underlying3
  obtain ⟨n1, e1, g1⟩ := h.int (j := 1) rfl Try.underlying3
  obtain rfl := list2 (by rw [h.1]; rfl) e0 e1
  exact ⟨⟨n0, n1⟩, ⟨g0, g1⟩, k152_mk w ⟨n0, n1⟩⟩
end Go.Proofs.Ytiophiipmgpaeaa.F
