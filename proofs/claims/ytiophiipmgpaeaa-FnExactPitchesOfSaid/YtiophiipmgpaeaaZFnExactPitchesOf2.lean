/- FnExactPitchesOf, part 2 of 3: texts of the claim, joined into one file. -/
import Derived.Test.YtiophiipmgpaeaaZFnExactPitchesOf1

/- What the arguments of this seat's laws are read as, and the pure statement of each law. -/
namespace Go.Proofs.Ytiophiipmgpaeaa.F
open Go.ChangeShapes Go.WideShapes Go.Deep Go.RowKit Go.Joins Go.Proofs.YtiophiipmgpaeaaW.PrintWords Go.Proofs.Ytiophiipmgpaeaa.Opened
set_option linter.unusedVariables false

def Good105 (x : S105) : Prop := I64 x.f0 ∧ I64 x.f1 ∧ I64 x.f2
theorem hk105 {H : Type} {enc : TypeId × Value → H} {w : World} {base : Nat} {spare : Nat → Bool} {held : Bool} {fs : Array Field} (hfs : Try.prog.underlying 105 = some (.struct fs)) (vs : List Value) (h : Fits enc Try.prog w base spare held fs vs) : ∃ x : S105, Good105 x ∧ k105.K w x vs := by
  rw [Try.underlying105] at hfs
  obtain rfl := TypeDesc.struct.inj (Option.some.inj hfs)
  obtain ⟨n0, e0, g0⟩ := h.int (j := 0) rfl Try.underlying3
  obtain ⟨n1, e1, g1⟩ := h.int (j := 1) rfl Try.underlying3
  obtain ⟨n2, e2, g2⟩ := h.int (j := 2) rfl Try.underlying3
  obtain rfl := list3 (by rw [h.1]; rfl) e0 e1 e2
  exact ⟨⟨n0, n1, n2⟩, ⟨g0, g1, g2⟩, k105_mk w ⟨n0, n1, n2⟩⟩
def Good103 (x : S103) : Prop := I64 x.f0 ∧ I64 x.f1 ∧ I64 x.f2
theorem hk103 {H : Type} {enc : TypeId × Value → H} {w : World} {base : Nat} {spare : Nat → Bool} {held : Bool} {fs : Array Field} (hfs : Try.prog.underlying 103 = some (.struct fs)) (vs : List Value) (h : Fits enc Try.prog w base spare held fs vs) : ∃ x : S103, Good103 x ∧ k103.K w x vs := by
  rw [Try.underlying103] at hfs
  obtain rfl := TypeDesc.struct.inj (Option.some.inj hfs)
  obtain ⟨n0, e0, g0⟩ := h.int (j := 0) rfl Try.underlying3
  obtain ⟨n1, e1, g1⟩ := h.int (j := 1) rfl Try.underlying3
  obtain ⟨n2, e2, g2⟩ := h.int (j := 2) rfl Try.underlying3
  obtain rfl := list3 (by rw [h.1]; rfl) e0 e1 e2
  exact ⟨⟨n0, n1, n2⟩, ⟨g0, g1, g2⟩, k103_mk w ⟨n0, n1, n2⟩⟩
def Good111 (x : S111) : Prop := I64 x.f0 ∧ I64 x.f1
theorem hk111 {H : Type} {enc : TypeId × Value → H} {w : World} {base : Nat} {spare : Nat → Bool} {held : Bool} {fs : Array Field} (hfs : Try.prog.underlying 111 = some (.struct fs)) (vs : List Value) (h : Fits enc Try.prog w base spare held fs vs) : ∃ x : S111, Good111 x ∧ k111.K w x vs := by
  rw [Try.underlying111] at hfs
  obtain rfl := TypeDesc.struct.inj (Option.some.inj hfs)
  obtain ⟨n0, e0, g0⟩ := h.int (j := 0) rfl Try.underlying3
  obtain ⟨n1, e1, g1⟩ := h.int (j := 1) rfl Try.underlying3
  obtain rfl := list2 (by rw [h.1]; rfl) e0 e1
  exact ⟨⟨n0, n1⟩, ⟨g0, g1⟩, k111_mk w ⟨n0, n1⟩⟩
def Good109 (x : S109) : Prop := I64 x.f0 ∧ I64 x.f1
theorem hk109 {H : Type} {enc : TypeId × Value → H} {w : World} {base : Nat} {spare : Nat → Bool} {held : Bool} {fs : Array Field} (hfs : Try.prog.underlying 109 = some (.struct fs)) (vs : List Value) (h : Fits enc Try.prog w base spare held fs vs) : ∃ x : S109, Good109 x ∧ k109.K w x vs := by
  rw [Try.underlying109] at hfs
  obtain rfl := TypeDesc.struct.inj (Option.some.inj hfs)
  obtain ⟨n0, e0, g0⟩ := h.int (j := 0) rfl Try.underlying3
  obtain ⟨n1, e1, g1⟩ := h.int (j := 1) rfl Try.underlying3
  obtain rfl := list2 (by rw [h.1]; rfl) e0 e1
  exact ⟨⟨n0, n1⟩, ⟨g0, g1⟩, k109_mk w ⟨n0, n1⟩⟩
def Good120 (x : S120) : Prop := I64 x.f0 ∧ I64 x.f1 ∧ I64 x.f2
theorem hk120 {H : Type} {enc : TypeId × Value → H} {w : World} {base : Nat} {spare : Nat → Bool} {held : Bool} {fs : Array Field} (hfs : Try.prog.underlying 120 = some (.struct fs)) (vs : List Value) (h : Fits enc Try.prog w base spare held fs vs) : ∃ x : S120, Good120 x ∧ k120.K w x vs := by
  rw [Try.underlying120] at hfs
  obtain rfl := TypeDesc.struct.inj (Option.some.inj hfs)
  obtain ⟨n0, e0, g0⟩ := h.int (j := 0) rfl Try.underlying3
  obtain ⟨n1, e1, g1⟩ := h.int (j := 1) rfl Try.underlying3
  obtain ⟨n2, e2, g2⟩ := h.int (j := 2) rfl Try.underlying3
  obtain rfl := list3 (by rw [h.1]; rfl) e0 e1 e2
  exact ⟨⟨n0, n1, n2⟩, ⟨g0, g1, g2⟩, k120_mk w ⟨n0, n1, n2⟩⟩
def Good116 (x : S116) : Prop := I64 x.f0 ∧ I64 x.f1 ∧ I64 x.f2
theorem hk116 {H : Type} {enc : TypeId × Value → H} {w : World} {base : Nat} {spare : Nat → Bool} {held : Bool} {fs : Array Field} (hfs : Try.prog.underlying 116 = some (.struct fs)) (vs : List Value) (h : Fits enc Try.prog w base spare held fs vs) : ∃ x : S116, Good116 x ∧ k116.K w x vs := by
  rw [Try.underlying116] at hfs
  obtain rfl := TypeDesc.struct.inj (Option.some.inj hfs)
  obtain ⟨n0, e0, g0⟩ := h.int (j := 0) rfl Try.underlying3
  obtain ⟨n1, e1, g1⟩ := h.int (j := 1) rfl Try.underlying3
  obtain ⟨n2, e2, g2⟩ := h.int (j := 2) rfl Try.underlying3
  obtain rfl := list3 (by rw [h.1]; rfl) e0 e1 e2
  exact ⟨⟨n0, n1, n2⟩, ⟨g0, g1, g2⟩, k116_mk w ⟨n0, n1, n2⟩⟩
def Good118 (x : S118) : Prop := I64 x.f0 ∧ I64 x.f1 ∧ I64 x.f2 ∧ I64 x.f3
theorem hk118 {H : Type} {enc : TypeId × Value → H} {w : World} {base : Nat} {spare : Nat → Bool} {held : Bool} {fs : Array Field} (hfs : Try.prog.underlying 118 = some (.struct fs)) (vs : List Value) (h : Fits enc Try.prog w base spare held fs vs) : ∃ x : S118, Good118 x ∧ k118.K w x vs := by
  rw [Try.underlying118] at hfs
  obtain rfl := TypeDesc.struct.inj (Option.some.inj hfs)
  obtain ⟨n0, e0, g0⟩ := h.int (j := 0) rfl Try.underlying3
  obtain ⟨n1, e1, g1⟩ := h.int (j := 1) rfl Try.underlying3
  obtain ⟨n2, e2, g2⟩ := h.int (j := 2) rfl Try.underlying3
  obtain ⟨n3, e3, g3⟩ := h.int (j := 3) rfl Try.underlying3
  obtain rfl := list4 (by rw [h.1]; rfl) e0 e1 e2 e3
  exact ⟨⟨n0, n1, n2, n3⟩, ⟨g0, g1, g2, g3⟩, k118_mk w ⟨n0, n1, n2, n3⟩⟩
def Good126 (x : S126) : Prop := I64 x.f0 ∧ I64 x.f1 ∧ I64 x.f2 ∧ I64 x.f3
theorem hk126 {H : Type} {enc : TypeId × Value → H} {w : World} {base : Nat} {spare : Nat → Bool} {held : Bool} {fs : Array Field} (hfs : Try.prog.underlying 126 = some (.struct fs)) (vs : List Value) (h : Fits enc Try.prog w base spare held fs vs) : ∃ x : S126, Good126 x ∧ k126.K w x vs := by
  rw [Try.underlying126] at hfs
  obtain rfl := TypeDesc.struct.inj (Option.some.inj hfs)
  obtain ⟨n0, e0, g0⟩ := h.int (j := 0) rfl Try.underlying3
  obtain ⟨n1, e1, g1⟩ := h.int (j := 1) rfl Try.underlying3
  obtain ⟨n2, e2, g2⟩ := h.int (j := 2) rfl Try.underlying3
  obtain ⟨n3, e3, g3⟩ := h.int (j := 3) rfl Try.underlying3
  obtain rfl := list4 (by rw [h.1]; rfl) e0 e1 e2 e3
  exact ⟨⟨n0, n1, n2, n3⟩, ⟨g0, g1, g2, g3⟩, k126_mk w ⟨n0, n1, n2, n3⟩⟩
def Good142 (x : S142) : Prop := I64 x.f0 ∧ I64 x.f1
theorem hk142 {H : Type} {enc : TypeId × Value → H} {w : World} {base : Nat} {spare : Nat → Bool} {held : Bool} {fs : Array Field} (hfs : Try.prog.underlying 142 = some (.struct fs)) (vs : List Value) (h : Fits enc Try.prog w base spare held fs vs) : ∃ x : S142, Good142 x ∧ k142.K w x vs := by
  rw [Try.underlying142] at hfs
  obtain rfl := TypeDesc.struct.inj (Option.some.inj hfs)
  obtain ⟨n0, e0, g0⟩ := h.int (j := 0) rfl Try.underlying3
  obtain ⟨n1, e1, g1⟩ := h.int (j := 1) rfl Try.underlying3
  obtain rfl := list2 (by rw [h.1]; rfl) e0 e1
  exact ⟨⟨n0, n1⟩, ⟨g0, g1⟩, k142_mk w ⟨n0, n1⟩⟩
def Good140 (x : S140) : Prop := I64 x.f0 ∧ I64 x.f1
theorem hk140 {H : Type} {enc : TypeId × Value → H} {w : World} {base : Nat} {spare : Nat → Bool} {held : Bool} {fs : Array Field} (hfs : Try.prog.underlying 140 = some (.struct fs)) (vs : List Value) (h : Fits enc Try.prog w base spare held fs vs) : ∃ x : S140, Good140 x ∧ k140.K w x vs := by
  rw [Try.underlying140] at hfs
  obtain rfl := TypeDesc.struct.inj (Option.some.inj hfs)
  obtain ⟨n0, e0, g0⟩ := h.int (j := 0) rfl Try.underlying3
  obtain ⟨n1, e1, g1⟩ := h.int (j := 1) rfl Try.underlying3
  obtain rfl := list2 (by rw [h.1]; rfl) e0 e1
  exact ⟨⟨n0, n1⟩, ⟨g0, g1⟩, k140_mk w ⟨n0, n1⟩⟩
def Good154 (x : S154) : Prop := I64 x.f0 ∧ I64 x.f1 ∧ I64 x.f2
theorem hk154 {H : Type} {enc : TypeId × Value → H} {w : World} {base : Nat} {spare : Nat → Bool} {held : Bool} {fs : Array Field} (hfs : Try.prog.underlying 154 = some (.struct fs)) (vs : List Value) (h : Fits enc Try.prog w base spare held fs vs) : ∃ x : S154, Good154 x ∧ k154.K w x vs := by
  rw [Try.underlying154] at hfs
  obtain rfl := TypeDesc.struct.inj (Option.some.inj hfs)
  obtain ⟨n0, e0, g0⟩ := h.int (j := 0) rfl Try.underlying3
  obtain ⟨n1, e1, g1⟩ := h.int (j := 1) rfl Try.underlying3
  obtain ⟨n2, e2, g2⟩ := h.int (j := 2) rfl Try.underlying3
  obtain rfl := list3 (by rw [h.1]; rfl) e0 e1 e2
  exact ⟨⟨n0, n1, n2⟩, ⟨g0, g1, g2⟩, k154_mk w ⟨n0, n1, n2⟩⟩
def Good152 (x : S152) : Prop := I64 x.f0 ∧ I64 x.f1
theorem hk152 {H : Type} {enc : TypeId × Value → H} {w : World} {base : Nat} {spare : Nat → Bool} {held : Bool} {fs : Array Field} (hfs : Try.prog.underlying 152 = some (.struct fs)) (vs : List Value) (h : Fits enc Try.prog w base spare held fs vs) : ∃ x : S152, Good152 x ∧ k152.K w x vs := by
  rw [Try.underlying152] at hfs
  obtain rfl := TypeDesc.struct.inj (Option.some.inj hfs)
  obtain ⟨n0, e0, g0⟩ := h.int (j := 0) rfl Try.underlying3
  obtain ⟨n1, e1, g1⟩ := h.int (j := 1) rfl Try.underlying3
  obtain rfl := list2 (by rw [h.1]; rfl) e0 e1
  exact ⟨⟨n0, n1⟩, ⟨g0, g1⟩, k152_mk w ⟨n0, n1⟩⟩
end Go.Proofs.Ytiophiipmgpaeaa.F

/- Small words on the printed functions: counting up, reading a list's element. -/
namespace Go.Proofs.Ytiophiipmgpaeaa.F
open Go.RowKit Go.Proofs.Ytiophiipmgpaeaa.Opened Go.Proofs.YtiophiipmgpaeaaW.PrintWords Go.Proofs.YtiophiipmgpaeaaW.PrintLast
set_option linter.unusedVariables false
set_option linter.unusedSimpArgs false

theorem w1 {n m : Nat} (h : n < m) (hm : m ≤ 9223372036854775807) : wrap64 ((n : Int) + 1) = ((n + 1 : Nat) : Int) := by unfold wrap64; omega
theorem w1i {i m : Int} (h0 : 0 ≤ i) (h : i < m) (hm : m ≤ 9223372036854775807) : wrap64 (i + 1) = i + 1 := by unfold wrap64; omega
theorem wid {x : Int} (h0 : -9223372036854775808 ≤ x) (h1 : x ≤ 9223372036854775807) : wrap64 x = x := by unfold wrap64; omega
theorem wI {x : Int} (h : I64 x) : wrap64 x = x := wid h.1 h.2
theorem bind_left {α β : Type} {a a' : Option α} (f : α → Option β) (h : a = a') : a.bind f = a'.bind f := by rw [h]
theorem take_next {α : Type} {l : List α} {n : Nat} (h : n < l.length) : l.take (n + 1) = l.take n ++ [l[n]] := by rw [List.take_succ_eq_append_getElem h]
theorem set_take {α : Type} (acc : List α) (n : Nat) (v : α) (h : n < acc.length) : (acc.set n v).take (n + 1) = acc.take n ++ [v] := by
  rw [List.take_succ_eq_append_getElem (by simpa using h), List.take_set, List.set_eq_of_length_le (by rw [List.length_take]; omega)]
  simp
theorem rd_nat (xs : List Int) (n : Nat) (h : n < xs.length) : rd xs (n : Int) = xs[n] := by simp [rd, h]
theorem rdT103 (xs : List S103) (n : Nat) (h : n < xs.length) : rd_T103 xs (n : Int) = xs[n] := by simp [rd_T103, h]
theorem rdT105 (xs : List S105) (n : Nat) (h : n < xs.length) : rd_T105 xs (n : Int) = xs[n] := by simp [rd_T105, h]
theorem rdT109 (xs : List S109) (n : Nat) (h : n < xs.length) : rd_T109 xs (n : Int) = xs[n] := by simp [rd_T109, h]
theorem rdT111 (xs : List S111) (n : Nat) (h : n < xs.length) : rd_T111 xs (n : Int) = xs[n] := by simp [rd_T111, h]
theorem rdT116 (xs : List S116) (n : Nat) (h : n < xs.length) : rd_T116 xs (n : Int) = xs[n] := by simp [rd_T116, h]
theorem rdT118 (xs : List S118) (n : Nat) (h : n < xs.length) : rd_T118 xs (n : Int) = xs[n] := by simp [rd_T118, h]
theorem rdT120 (xs : List S120) (n : Nat) (h : n < xs.length) : rd_T120 xs (n : Int) = xs[n] := by simp [rd_T120, h]
theorem rdT126 (xs : List S126) (n : Nat) (h : n < xs.length) : rd_T126 xs (n : Int) = xs[n] := by simp [rd_T126, h]
theorem rdT140 (xs : List S140) (n : Nat) (h : n < xs.length) : rd_T140 xs (n : Int) = xs[n] := by simp [rd_T140, h]
theorem rdT142 (xs : List S142) (n : Nat) (h : n < xs.length) : rd_T142 xs (n : Int) = xs[n] := by simp [rd_T142, h]
theorem rdT152 (xs : List S152) (n : Nat) (h : n < xs.length) : rd_T152 xs (n : Int) = xs[n] := by simp [rd_T152, h]
theorem rdT154 (xs : List S154) (n : Nat) (h : n < xs.length) : rd_T154 xs (n : Int) = xs[n] := by simp [rd_T154, h]

end Go.Proofs.Ytiophiipmgpaeaa.F

-- Written for this claim by the kit's print.py out of the translation, called by wip/tools/fprint.py. Lean checks it.
namespace Go.Proofs.Ytiophiipmgpaeaa.F
open Go.RowKit Go.Proofs.YtiophiipmgpaeaaW.PrintWords Go.Proofs.YtiophiipmgpaeaaW.PrintLast Go.Proofs.YtiophiipmgpaeaaW.PrintMore
attribute [local go_sem] max2_int min2_int max_two min_two max_three min_three max_four min_four   -- for this text's walks alone
set_option linter.unusedVariables false
set_option linter.unusedSimpArgs false

/-! ### spec_l1In: function 80 -/
def spec_l1In.f (a0 : Int) (a1 : Int) (a2 : Int) : Option (Bool) := if a0 ≥ a1 then (some (decide (a0 ≤ a2))) else (some false)
set_option maxHeartbeats 8000000 in
set_option maxRecDepth 100000 in
theorem spec_l1In.calls (a0 : Int) (a1 : Int) (a2 : Int) (r : Bool) (w : World) (h : spec_l1In.f a0 a1 a2 = some r) :
    Calls Try.prog 80 #[.int .i64 a0, .int .i64 a1, .int .i64 a2] w fun e w' => e = .returned (.bool r) ∧ Drawn0 w w' := by
  have H : (if a0 ≥ a1 then (some (decide (a0 ≤ a2))) else (some false)) = some r := h
  clear h
  by_cases c4 : a0 ≥ a1
  · rw [if_pos c4] at H
    have c4b0 : decide (a1 ≤ a0) = true := decide_eq_true c4
    clear c4
    obtain rfl := Option.some.inj H
    go_enter Try.func80, Try.ntmps80
    go_wp2
    go_ret
    exact ⟨by first | rfl | (simp; done) | (simp [*]; done), by repeat (first | exact Drawn0.refl _ | apply Drawn0.step)⟩
  · rw [if_neg c4] at H
    have c4b0 : decide (a1 ≤ a0) = false := decide_eq_false c4
    clear c4
    obtain rfl := Option.some.inj H
    go_enter Try.func80, Try.ntmps80
    go_wp2
    go_ret
    exact ⟨by first | rfl | (simp; done) | (simp [*]; done), by repeat (first | exact Drawn0.refl _ | apply Drawn0.step)⟩

end Go.Proofs.Ytiophiipmgpaeaa.F

-- Written for this claim by the kit's print.py out of the translation, called by wip/tools/fprint.py. Lean checks it.
namespace Go.Proofs.Ytiophiipmgpaeaa.F
open Go.RowKit Go.Proofs.YtiophiipmgpaeaaW.PrintWords Go.Proofs.YtiophiipmgpaeaaW.PrintLast Go.Proofs.YtiophiipmgpaeaaW.PrintMore
attribute [local go_sem] max2_int min2_int max_two min_two max_three min_three max_four min_four   -- for this text's walks alone
set_option linter.unusedVariables false
set_option linter.unusedSimpArgs false

/-! ### impl_InRange: function 82 -/
def impl_InRange.f (a0 : Int) (a1 : Int) (a2 : Int) : Option (Bool) := if a1 ≤ a0 then (some (decide (a0 ≤ a2))) else (some false)
set_option maxHeartbeats 8000000 in
set_option maxRecDepth 100000 in
theorem impl_InRange.calls (a0 : Int) (a1 : Int) (a2 : Int) (r : Bool) (w : World) (h : impl_InRange.f a0 a1 a2 = some r) :
    Calls Try.prog 82 #[.int .i64 a0, .int .i64 a1, .int .i64 a2] w fun e w' => e = .returned (.bool r) ∧ Drawn0 w w' := by
  have H : (if a1 ≤ a0 then (some (decide (a0 ≤ a2))) else (some false)) = some r := h
  clear h
  by_cases c4 : a1 ≤ a0
  · rw [if_pos c4] at H
    have c4b0 : decide (a1 ≤ a0) = true := decide_eq_true c4
    clear c4
    obtain rfl := Option.some.inj H
    go_enter Try.func82, Try.ntmps82
    go_wp2
    go_ret
    exact ⟨by first | rfl | (simp; done) | (simp [*]; done), by repeat (first | exact Drawn0.refl _ | apply Drawn0.step)⟩
  · rw [if_neg c4] at H
    have c4b0 : decide (a1 ≤ a0) = false := decide_eq_false c4
    clear c4
    obtain rfl := Option.some.inj H
    go_enter Try.func82, Try.ntmps82
    go_wp2
    go_ret
    exact ⟨by first | rfl | (simp; done) | (simp [*]; done), by repeat (first | exact Drawn0.refl _ | apply Drawn0.step)⟩

end Go.Proofs.Ytiophiipmgpaeaa.F

-- Written for this claim by the kit's print.py out of the translation, called by wip/tools/fprint.py. Lean checks it.
namespace Go.Proofs.Ytiophiipmgpaeaa.F
open Go.RowKit Go.Proofs.YtiophiipmgpaeaaW.PrintWords Go.Proofs.YtiophiipmgpaeaaW.PrintLast Go.Proofs.YtiophiipmgpaeaaW.PrintMore
attribute [local go_sem] max2_int min2_int max_two min_two max_three min_three max_four min_four   -- for this text's walks alone
set_option linter.unusedVariables false
set_option linter.unusedSimpArgs false

/-! ### spec_Min: function 146 -/
def spec_Min.f (a0 : Int) (a1 : Int) : Option (Int) := if a1 < a0 then (some a1) else (some a0)
set_option maxHeartbeats 8000000 in
set_option maxRecDepth 100000 in
theorem spec_Min.calls (a0 : Int) (a1 : Int) (r : Int) (w : World) (h : spec_Min.f a0 a1 = some r) :
    Calls Try.prog 146 #[.int .i64 a0, .int .i64 a1] w fun e w' => e = .returned (.int .i64 r) ∧ Drawn0 w w' := by
  have H : (if a1 < a0 then (some a1) else (some a0)) = some r := h
  clear h
  by_cases c3 : a1 < a0
  · rw [if_pos c3] at H
    have c3b0 : decide (a1 < a0) = true := decide_eq_true c3
    clear c3
    obtain rfl := Option.some.inj H
    go_enter Try.func146, Try.ntmps146
    go_wp2
    go_ret
    exact ⟨by first | rfl | (simp; done) | (simp [*]; done), by repeat (first | exact Drawn0.refl _ | apply Drawn0.step)⟩
  · rw [if_neg c3] at H
    have c3b0 : decide (a1 < a0) = false := decide_eq_false c3
    clear c3
    obtain rfl := Option.some.inj H
    go_enter Try.func146, Try.ntmps146
    go_wp2
    go_ret
    exact ⟨by first | rfl | (simp; done) | (simp [*]; done), by repeat (first | exact Drawn0.refl _ | apply Drawn0.step)⟩

end Go.Proofs.Ytiophiipmgpaeaa.F

/- Ranges, minima, maxima, remainders: what the small functions on numbers come to. -/
namespace Go.Proofs.Ytiophiipmgpaeaa.F
open Go.RowKit Go.Proofs.Ytiophiipmgpaeaa.Opened Go.Proofs.YtiophiipmgpaeaaW.PrintWords Go.Proofs.YtiophiipmgpaeaaW.PrintLast Go.Proofs.YtiophiipmgpaeaaW.PrintMore
set_option linter.unusedVariables false
set_option linter.unusedSimpArgs false
theorem spec_l1In.ok (a b c : Int) : spec_l1In.f a b c = some (decide (b ≤ a ∧ a ≤ c)) := by
  unfold spec_l1In.f
  by_cases h : b ≤ a <;> simp [h]
theorem impl_InRange.ok (a b c : Int) : impl_InRange.f a b c = some (decide (b ≤ a ∧ a ≤ c)) := by
  unfold impl_InRange.f
  by_cases h : b ≤ a <;> simp [h]
theorem spec_Min.ok (a b : Int) : spec_Min.f a b = some (mn a b) := by
  unfold spec_Min.f mn
  by_cases h : b < a <;> simp [h]
end Go.Proofs.Ytiophiipmgpaeaa.F

-- Written for this claim by the kit's print.py out of the translation, called by wip/tools/fprint.py. Lean checks it.
namespace Go.Proofs.Ytiophiipmgpaeaa.F
open Go.RowKit Go.Proofs.YtiophiipmgpaeaaW.PrintWords Go.Proofs.YtiophiipmgpaeaaW.PrintLast Go.Proofs.YtiophiipmgpaeaaW.PrintMore
attribute [local go_sem] max2_int min2_int max_two min_two max_three min_three max_four min_four   -- for this text's walks alone
set_option linter.unusedVariables false
set_option linter.unusedSimpArgs false

/-! ### spec_IsPerformance: function 84 -/
def spec_IsPerformance.l0 : Nat → List (S109) → Int → Option (Bool)
  | 0, _, _ => none
  | k + 1, x0, x3 => if x3 < (x0.length : Int) then (if 0 ≤ x3 then ((spec_l1In.f ((rd_T109 x0 x3).f0) 0 10000000).bind fun t186 => (if t186 = true then ((spec_l1In.f ((rd_T109 x0 x3).f1) 0 127).bind fun t188 => (if t188 = true then (if x3 > 0 then (if 0 ≤ (wrap64 (x3 - 1)) then (if (wrap64 (x3 - 1)) < (x0.length : Int) then (if ((rd_T109 x0 (wrap64 (x3 - 1))).f0) > ((rd_T109 x0 x3).f0) then (some false) else (if ((rd_T109 x0 (wrap64 (x3 - 1))).f0) = ((rd_T109 x0 x3).f0) then (if ((rd_T109 x0 (wrap64 (x3 - 1))).f1) > ((rd_T109 x0 x3).f1) then (some false) else (spec_IsPerformance.l0 k x0 (wrap64 (x3 + 1)))) else (spec_IsPerformance.l0 k x0 (wrap64 (x3 + 1))))) else (none)) else (none)) else (spec_IsPerformance.l0 k x0 (wrap64 (x3 + 1)))) else (some false))) else (some false))) else (none)) else (some (decide ((x0.length : Int) ≤ 60)))
def spec_IsPerformance.f (k : Nat) (l0 : List (S109)) : Option (Bool) := spec_IsPerformance.l0 k l0 0
theorem spec_IsPerformance.mono_l : ∀ k, (∀ y0 y1, LeO (spec_IsPerformance.l0 k y0 y1) (spec_IsPerformance.l0 (k + 1) y0 y1))
  | 0 => fun _ _ r h => by simp [spec_IsPerformance.l0] at h
  | k + 1 => by
    have ih0 := spec_IsPerformance.mono_l k
    · intro y0 y1
      unfold spec_IsPerformance.l0
      repeat' first
      | (with_reducible exact ih0 _ _)
      | (with_reducible exact LeO.refl _)
      | (with_reducible exact LeO.none _)
      | (with_reducible refine LeO.ite ?_ ?_)
      | (with_reducible refine LeO.bind ?_ (fun _ => ?_))
      | exact ih0 _ _
      | exact LeO.none _
      | refine LeO.ite ?_ ?_
      | refine LeO.bind ?_ (fun _ => ?_)
theorem spec_IsPerformance.mono : ∀ a0 k, LeO (spec_IsPerformance.f k a0) (spec_IsPerformance.f (k + 1) a0) := by
  intro a0 k
  have ih0 := spec_IsPerformance.mono_l k
  unfold spec_IsPerformance.f
  repeat' first
      | (with_reducible exact ih0 _ _)
      | (with_reducible exact LeO.refl _)
      | (with_reducible exact LeO.none _)
      | (with_reducible refine LeO.ite ?_ ?_)
      | (with_reducible refine LeO.bind ?_ (fun _ => ?_))
      | exact ih0 _ _
      | exact LeO.none _
      | refine LeO.ite ?_ ?_
      | refine LeO.bind ?_ (fun _ => ?_)
def spec_IsPerformance.T4 : Bool × List (List Nat × List Nat) := (true, [([], []), ([], []), ([0, 1], [0, 1]), ([2], [2]), ([3], [3]), ([4], [4]), ([5], [5]), ([6, 5], [6]), ([7], [7]), ([7], [7]), ([8, 9, 7], [7, 8, 9]), ([10, 7], [7, 10]), ([11, 7], [7, 11]), ([12, 7, 7], [7, 12]), ([13, 7], [7, 13]), ([7, 14], [7, 14]), ([15, 13], [15]), ([16], [16]), ([17, 16], [16, 17]), ([18, 16, 16], [16, 18]), ([19], [19]), ([19], [19]), ([21, 19], [19, 21]), ([20, 22, 19], [19, 20, 22]), ([23, 19], [19, 23]), ([24, 19], [19, 24]), ([19], [19]), ([19], [19]), ([26, 27, 19], [19, 26, 27]), ([28, 19], [19, 28]), ([29, 19], [19, 29]), ([25, 30, 19], [19, 25, 30]), ([31, 19, 19], [19, 31]), ([32], [32]), ([32], [32]), ([34, 32], [32, 34]), ([33, 35, 32], [32, 33, 35]), ([36, 32], [32, 36]), ([37, 32], [32, 37]), ([32], [32]), ([32], [32]), ([39, 40, 32], [32, 39, 40]), ([41, 32], [32, 41]), ([42, 32], [32, 42]), ([38, 43, 32], [32, 38, 43]), ([44, 32, 32], [32, 44]), ([45], [45]), ([45], [45]), ([47, 45], [45, 47]), ([46, 48, 45], [45, 46, 48]), ([49, 45], [45, 49]), ([50, 45], [45, 50]), ([45], [45]), ([45], [45]), ([52, 53, 45], [45, 52, 53]), ([54, 45], [45, 54]), ([55, 45], [45, 55]), ([51, 56, 45], [45, 51, 56]), ([45, 57, 32], [32, 45, 57]), ([32, 58, 19], [19, 32, 58]), ([19, 59, 16], [16, 19, 59]), ([16, 60], [16, 60])])
def spec_IsPerformance.B4 : List Nat := [0, 0, 3, 7, 15, 31, 63, 127, 255, 255, 1023, 2047, 4095, 8191, 16383, 32767, 65535, 131071, 262143, 524287, 1048575, 1048575, 3145727, 8388607, 16777215, 33554431, 1048575, 1048575, 202375167, 470810623, 1007681535, 2147483647, 4294967295, 8589934591, 8589934591, 25769803775, 68719476735, 137438953471, 274877906943, 8589934591, 8589934591, 1657857376255, 3856880631807, 8254927142911, 17592186044415, 35184372088831, 70368744177663, 70368744177663, 211106232532991, 562949953421311, 1125899906842623, 2251799813685247, 70368744177663, 70368744177663, 13581167626289151, 31595566135771135, 67624363154735103, 144115188075855871, 288230376151711743, 576460752303423487, 1152921504606846975, 2305843009213693951]
theorem spec_IsPerformance.tab4 : rtab .any (opsOf Try.f84 4) = spec_IsPerformance.T4 := by kernel_rfl
theorem spec_IsPerformance.bits4 : waitsOk spec_IsPerformance.T4.2 spec_IsPerformance.B4 = true := by kernel_rfl
set_option maxHeartbeats 8000000 in
set_option maxRecDepth 100000 in
theorem spec_IsPerformance.calls (k : Nat) (A0 : Option Addr) (c0 : Nat) (l0 : List (S109)) (r : Bool) (w : World) (hr0 : Kd.C k109 w A0 l0.length l0) (hc0 : l0.length ≤ c0) (h : spec_IsPerformance.f k l0 = some r) :
    Calls Try.prog 84 #[.slice A0 l0.length c0] w fun e w' => e = .returned (.bool r) ∧ Below w.heap.size w w' := by
  have HR0 := Aside0.mk hr0
  have HC0 := Aside0.mk hc0
  clear hr0 hc0
  have HB := Aside0.mk (Below.refl w.heap.size w)
  have H : (spec_IsPerformance.l0 k l0 0) = some r := h
  clear h
  have H' := Aside0.mk H
  clear H
  go_enter Try.func84, Try.ntmps84
  go_wp2
  go_loopg [3] k (fun kq v3 w' => ∃ (x3_1 : Int), v3 = .int .i64 x3_1 ∧ Aside0 (spec_IsPerformance.l0 kq l0 x3_1 = some r) ∧ Aside0 (kq ≤ k) ∧ Aside0 (Below w.heap.size w w'))
  case atStart => exact ⟨(0), (by first | rfl | (simp; done) | (simp [*]; done)), H', ⟨Nat.le_refl _⟩, ⟨by repeat (first | (with_reducible first | exact HB.out | apply below_alloc | apply pw_below_drewN | apply below_drew1) | exact HB.out)⟩⟩
  case round =>
    clear H'
    obtain ⟨x3_1, rfl, HA, HK1, HB⟩ := hrel
    cases gk with
    | zero => exact absurd HA.out (by simp [spec_IsPerformance.l0])
    | succ k1 =>
      have H := HA.out
      clear HA
      simp only [spec_IsPerformance.l0] at H
      by_cases c2 : x3_1 < (l0.length : Int)
      · rw [if_pos c2] at H
        have c2b0 : decide (x3_1 < (l0.length : Int)) = true := decide_eq_true c2
        clear c2
        by_cases c3 : 0 ≤ x3_1
        · rw [if_pos c3] at H
          have c3b0 : decide (0 ≤ x3_1) = true := decide_eq_true c3
          clear c3
          replace H := Option.bind_eq_some_iff.mp H
          obtain ⟨t186, A40, H⟩ := H
          replace H : (if t186 = true then ((spec_l1In.f ((rd_T109 l0 x3_1).f1) 0 127).bind fun t188 => (if t188 = true then (if x3_1 > 0 then (if 0 ≤ (wrap64 (x3_1 - 1)) then (if (wrap64 (x3_1 - 1)) < (l0.length : Int) then (if ((rd_T109 l0 (wrap64 (x3_1 - 1))).f0) > ((rd_T109 l0 x3_1).f0) then (some false) else (if ((rd_T109 l0 (wrap64 (x3_1 - 1))).f0) = ((rd_T109 l0 x3_1).f0) then (if ((rd_T109 l0 (wrap64 (x3_1 - 1))).f1) > ((rd_T109 l0 x3_1).f1) then (some false) else (spec_IsPerformance.l0 k1 l0 (wrap64 (x3_1 + 1)))) else (spec_IsPerformance.l0 k1 l0 (wrap64 (x3_1 + 1))))) else (none)) else (none)) else (spec_IsPerformance.l0 k1 l0 (wrap64 (x3_1 + 1)))) else (some false))) else (some false)) = some r := H
          have A4 := Aside0.mk A40
          clear A40
          by_cases c5 : t186 = true
          · subst c5
            have H1 : ((spec_l1In.f ((rd_T109 l0 x3_1).f1) 0 127).bind fun t188 => (if t188 = true then (if x3_1 > 0 then (if 0 ≤ (wrap64 (x3_1 - 1)) then (if (wrap64 (x3_1 - 1)) < (l0.length : Int) then (if ((rd_T109 l0 (wrap64 (x3_1 - 1))).f0) > ((rd_T109 l0 x3_1).f0) then (some false) else (if ((rd_T109 l0 (wrap64 (x3_1 - 1))).f0) = ((rd_T109 l0 x3_1).f0) then (if ((rd_T109 l0 (wrap64 (x3_1 - 1))).f1) > ((rd_T109 l0 x3_1).f1) then (some false) else (spec_IsPerformance.l0 k1 l0 (wrap64 (x3_1 + 1)))) else (spec_IsPerformance.l0 k1 l0 (wrap64 (x3_1 + 1))))) else (none)) else (none)) else (spec_IsPerformance.l0 k1 l0 (wrap64 (x3_1 + 1)))) else (some false))) = some r := by rw [if_pos rfl] at H; exact H
            clear H
            have H := H1
            clear H1
            replace H := Option.bind_eq_some_iff.mp H
            obtain ⟨t188, A60, H⟩ := H
            replace H : (if t188 = true then (if x3_1 > 0 then (if 0 ≤ (wrap64 (x3_1 - 1)) then (if (wrap64 (x3_1 - 1)) < (l0.length : Int) then (if ((rd_T109 l0 (wrap64 (x3_1 - 1))).f0) > ((rd_T109 l0 x3_1).f0) then (some false) else (if ((rd_T109 l0 (wrap64 (x3_1 - 1))).f0) = ((rd_T109 l0 x3_1).f0) then (if ((rd_T109 l0 (wrap64 (x3_1 - 1))).f1) > ((rd_T109 l0 x3_1).f1) then (some false) else (spec_IsPerformance.l0 k1 l0 (wrap64 (x3_1 + 1)))) else (spec_IsPerformance.l0 k1 l0 (wrap64 (x3_1 + 1))))) else (none)) else (none)) else (spec_IsPerformance.l0 k1 l0 (wrap64 (x3_1 + 1)))) else (some false)) = some r := H
            have A6 := Aside0.mk A60
            clear A60
            by_cases c7 : t188 = true
            · subst c7
              have H1 : (if x3_1 > 0 then (if 0 ≤ (wrap64 (x3_1 - 1)) then (if (wrap64 (x3_1 - 1)) < (l0.length : Int) then (if ((rd_T109 l0 (wrap64 (x3_1 - 1))).f0) > ((rd_T109 l0 x3_1).f0) then (some false) else (if ((rd_T109 l0 (wrap64 (x3_1 - 1))).f0) = ((rd_T109 l0 x3_1).f0) then (if ((rd_T109 l0 (wrap64 (x3_1 - 1))).f1) > ((rd_T109 l0 x3_1).f1) then (some false) else (spec_IsPerformance.l0 k1 l0 (wrap64 (x3_1 + 1)))) else (spec_IsPerformance.l0 k1 l0 (wrap64 (x3_1 + 1))))) else (none)) else (none)) else (spec_IsPerformance.l0 k1 l0 (wrap64 (x3_1 + 1)))) = some r := by rw [if_pos rfl] at H; exact H
              clear H
              have H := H1
              clear H1
              by_cases c8 : x3_1 > 0
              · rw [if_pos c8] at H
                have c8b0 : decide (0 < x3_1) = true := decide_eq_true c8
                clear c8
                obtain ⟨ji9, hji9⟩ : ∃ j_ : Int, (wrap64 (x3_1 - 1)) = j_ := ⟨_, rfl⟩
                replace H : (if 0 ≤ (ji9) then (if (ji9) < (l0.length : Int) then (if ((rd_T109 l0 (ji9)).f0) > ((rd_T109 l0 x3_1).f0) then (some false) else (if ((rd_T109 l0 (ji9)).f0) = ((rd_T109 l0 x3_1).f0) then (if ((rd_T109 l0 (ji9)).f1) > ((rd_T109 l0 x3_1).f1) then (some false) else (spec_IsPerformance.l0 k1 l0 (wrap64 (x3_1 + 1)))) else (spec_IsPerformance.l0 k1 l0 (wrap64 (x3_1 + 1))))) else (none)) else (none)) = some r := by first | (rw [hji9] at H; exact H) | (simp only [hji9] at H ⊢; exact H)
                (try rw [hji9] at A4)
                (try rw [hji9] at A6)
                have hji9w : (IntKind.i64.wrap (x3_1 - 1)) = ji9 := (i64_w _).trans hji9
                by_cases c10 : 0 ≤ (ji9)
                · rw [if_pos c10] at H
                  have c10b0 : decide (0 ≤ (ji9)) = true := decide_eq_true c10
                  clear c10
                  by_cases c11 : (ji9) < (l0.length : Int)
                  · rw [if_pos c11] at H
                    have c11b0 : decide ((ji9) < (l0.length : Int)) = true := decide_eq_true c11
                    clear c11
                    by_cases c12 : ((rd_T109 l0 (ji9)).f0) > ((rd_T109 l0 x3_1).f0)
                    · rw [if_pos c12] at H
                      have c12b0 : decide (((rd_T109 l0 x3_1).f0) < ((rd_T109 l0 (ji9)).f0)) = true := decide_eq_true c12
                      clear c12
                      obtain rfl := Option.some.inj H
                      try go_wp2
                      have n0_ := Aside0.mk (below_drew1 HB.out)
                      clear HB
                      have HB := n0_
                      clear n0_
                      have p185 : 0 ≤ (x3_1 : Int) := of_decide_eq_true (by first | (with_reducible assumption) | assumption)
                      have q185 : x3_1 < (l0.length : Int) := of_decide_eq_true (by first | (with_reducible assumption) | assumption)
                      obtain ⟨ad185, e185, hx185_0, hx185_1⟩ := at_T109 HR0.out x3_1 p185 q185
                      have hw185_1 := hx185_1
                      have hw185_0 := hx185_0
                      cases e185
                      replace hx185_0 := (HB.out.cell (World.block_lt_of_cell? w _ hx185_0)).trans hx185_0
                      replace hx185_1 := (HB.out.cell (World.block_lt_of_cell? w _ hx185_1)).trans hx185_1
                      replace p185 := eq_true p185
                      replace q185 := eq_true q185
                      have p187 : 0 ≤ (x3_1 : Int) := of_decide_eq_true (by first | (with_reducible assumption) | assumption)
                      have q187 : x3_1 < (l0.length : Int) := of_decide_eq_true (by first | (with_reducible assumption) | assumption)
                      obtain ⟨ad187, e187, hx187_0, hx187_1⟩ := at_T109 HR0.out x3_1 p187 q187
                      have hw187_1 := hx187_1
                      have hw187_0 := hx187_0
                      obtain rfl : ad185 = ad187 := (by injection e187)
                      replace hx187_0 := (HB.out.cell (World.block_lt_of_cell? w _ hx187_0)).trans hx187_0
                      replace hx187_1 := (HB.out.cell (World.block_lt_of_cell? w _ hx187_1)).trans hx187_1
                      replace p187 := eq_true p187
                      replace q187 := eq_true q187
                      have p189 : 0 ≤ ((ji9) : Int) := of_decide_eq_true (by first | (with_reducible assumption) | assumption)
                      have q189 : (ji9) < (l0.length : Int) := of_decide_eq_true (by first | (with_reducible assumption) | assumption)
                      obtain ⟨ad189, e189, hx189_0, hx189_1⟩ := at_T109 HR0.out (ji9) p189 q189
                      have hw189_1 := hx189_1
                      have hw189_0 := hx189_0
                      obtain rfl : ad185 = ad189 := (by injection e189)
                      replace hx189_0 := (HB.out.cell (World.block_lt_of_cell? w _ hx189_0)).trans hx189_0
                      replace hx189_1 := (HB.out.cell (World.block_lt_of_cell? w _ hx189_1)).trans hx189_1
                      replace p189 := eq_true p189
                      replace q189 := eq_true q189
                      have p190 : 0 ≤ (x3_1 : Int) := of_decide_eq_true (by first | (with_reducible assumption) | assumption)
                      have q190 : x3_1 < (l0.length : Int) := of_decide_eq_true (by first | (with_reducible assumption) | assumption)
                      obtain ⟨ad190, e190, hx190_0, hx190_1⟩ := at_T109 HR0.out x3_1 p190 q190
                      have hw190_1 := hx190_1
                      have hw190_0 := hx190_0
                      obtain rfl : ad185 = ad190 := (by injection e190)
                      replace hx190_0 := (HB.out.cell (World.block_lt_of_cell? w _ hx190_0)).trans hx190_0
                      replace hx190_1 := (HB.out.cell (World.block_lt_of_cell? w _ hx190_1)).trans hx190_1
                      replace p190 := eq_true p190
                      replace q190 := eq_true q190
                      have hq0_ : wr.cell? (ad185.add ((x3_1).toNat * 2)) = some (.int .i64 ((rd_T109 l0 x3_1).f0)) := ((HB.out.cell (World.block_lt_of_cell? w _ hw185_0)).trans hw185_0)
                      have hq1_ : wr.cell? ⟨(ad185.add ((x3_1).toNat * 2)).block, (ad185.add ((x3_1).toNat * 2)).off + 1, none⟩ = some (.int .i64 ((rd_T109 l0 x3_1).f1)) := ((HB.out.cell (World.block_lt_of_cell? w _ hw185_1)).trans hw185_1)
                      have hq2_ : wr.cell? (ad185.add ((x3_1).toNat * 2)) = some (.int .i64 ((rd_T109 l0 x3_1).f0)) := ((HB.out.cell (World.block_lt_of_cell? w _ hw187_0)).trans hw187_0)
                      have hq3_ : wr.cell? ⟨(ad185.add ((x3_1).toNat * 2)).block, (ad185.add ((x3_1).toNat * 2)).off + 1, none⟩ = some (.int .i64 ((rd_T109 l0 x3_1).f1)) := ((HB.out.cell (World.block_lt_of_cell? w _ hw187_1)).trans hw187_1)
                      have hq4_ : wr.cell? (ad185.add (((ji9)).toNat * 2)) = some (.int .i64 ((rd_T109 l0 (ji9)).f0)) := ((HB.out.cell (World.block_lt_of_cell? w _ hw189_0)).trans hw189_0)
                      have hq5_ : wr.cell? ⟨(ad185.add (((ji9)).toNat * 2)).block, (ad185.add (((ji9)).toNat * 2)).off + 1, none⟩ = some (.int .i64 ((rd_T109 l0 (ji9)).f1)) := ((HB.out.cell (World.block_lt_of_cell? w _ hw189_1)).trans hw189_1)
                      have hq6_ : wr.cell? (ad185.add ((x3_1).toNat * 2)) = some (.int .i64 ((rd_T109 l0 x3_1).f0)) := ((HB.out.cell (World.block_lt_of_cell? w _ hw190_0)).trans hw190_0)
                      have hq7_ : wr.cell? ⟨(ad185.add ((x3_1).toNat * 2)).block, (ad185.add ((x3_1).toNat * 2)).off + 1, none⟩ = some (.int .i64 ((rd_T109 l0 x3_1).f1)) := ((HB.out.cell (World.block_lt_of_cell? w _ hw190_1)).trans hw190_1)
                      go_quiet ((first | (go_at_call 80; apply Calls.quiet_of; ((with_reducible refine (spec_l1In.calls ((rd_T109 l0 x3_1).f0) 0 10000000 true _ A4.out).mono ?_); exact fun _ _ h_ => ⟨h_.1, h_.2.out⟩)) | (go_at_call 80; apply Calls.quiet_of; ((with_reducible refine (spec_l1In.calls ((rd_T109 l0 x3_1).f1) 0 127 true _ A6.out).mono ?_); exact fun _ _ h_ => ⟨h_.1, h_.2.out⟩))))
                      have nHB_ := Aside0.mk (pw_below_drewN (W := wr) ⟨HB.out.os, HB.out.tape, HB.out.output, HB.out.size, HB.out.block⟩ nq)
                      have nhx185_0_ : (wr.drewN nq).cell? _ = _ := hx185_0
                      have nhx185_1_ : (wr.drewN nq).cell? _ = _ := hx185_1
                      have nhx187_0_ : (wr.drewN nq).cell? _ = _ := hx187_0
                      have nhx187_1_ : (wr.drewN nq).cell? _ = _ := hx187_1
                      have nhx189_0_ : (wr.drewN nq).cell? _ = _ := hx189_0
                      have nhx189_1_ : (wr.drewN nq).cell? _ = _ := hx189_1
                      have nhx190_0_ : (wr.drewN nq).cell? _ = _ := hx190_0
                      have nhx190_1_ : (wr.drewN nq).cell? _ = _ := hx190_1
                      clear HB hx185_0 hx185_1 hx187_0 hx187_1 hx189_0 hx189_1 hx190_0 hx190_1 hq0_ hq1_ hq2_ hq3_ hq4_ hq5_ hq6_ hq7_
                      have HB := nHB_
                      have hx185_0 := nhx185_0_
                      have hx185_1 := nhx185_1_
                      have hx187_0 := nhx187_0_
                      have hx187_1 := nhx187_1_
                      have hx189_0 := nhx189_0_
                      have hx189_1 := nhx189_1_
                      have hx190_0 := nhx190_0_
                      have hx190_1 := nhx190_1_
                      clear nHB_ nhx185_0_ nhx185_1_ nhx187_0_ nhx187_1_ nhx189_0_ nhx189_1_ nhx190_0_ nhx190_1_
                      generalize wr.drewN nq = w13 at HB hx185_0 hx185_1 hx187_0 hx187_1 hx189_0 hx189_1 hx190_0 hx190_1 ⊢
                      try go_wp2
                      go_ret
                      exact ⟨by first | rfl | (simp [errW_none, errW_some] <;> rfl) | (simp only [← hji9]; first | rfl | (simp [errW_none, errW_some] <;> rfl)) | (simp [*, errW_none, errW_some] <;> rfl), by repeat (first | (with_reducible first | exact HB.out | apply below_alloc | apply pw_below_drewN | apply below_drew1) | exact HB.out)⟩
                    · rw [if_neg c12] at H
                      have c12b0 : decide (((rd_T109 l0 x3_1).f0) < ((rd_T109 l0 (ji9)).f0)) = false := decide_eq_false c12
                      clear c12
                      by_cases c14 : ((rd_T109 l0 (ji9)).f0) = ((rd_T109 l0 x3_1).f0)
                      · rw [if_pos c14] at H
                        have c14b0 : (((rd_T109 l0 (ji9)).f0) == ((rd_T109 l0 x3_1).f0)) = true := beq_iff_eq.mpr c14
                        have c14b1 : (((rd_T109 l0 (ji9)).f0) != ((rd_T109 l0 x3_1).f0)) = false := bne_eq_false_iff_eq.mpr c14
                        clear c14
                        by_cases c15 : ((rd_T109 l0 (ji9)).f1) > ((rd_T109 l0 x3_1).f1)
                        · rw [if_pos c15] at H
                          have c15b0 : decide (((rd_T109 l0 x3_1).f1) < ((rd_T109 l0 (ji9)).f1)) = true := decide_eq_true c15
                          clear c15
                          obtain rfl := Option.some.inj H
                          try go_wp2
                          have n0_ := Aside0.mk (below_drew1 HB.out)
                          clear HB
                          have HB := n0_
                          clear n0_
                          have p185 : 0 ≤ (x3_1 : Int) := of_decide_eq_true (by first | (with_reducible assumption) | assumption)
                          have q185 : x3_1 < (l0.length : Int) := of_decide_eq_true (by first | (with_reducible assumption) | assumption)
                          obtain ⟨ad185, e185, hx185_0, hx185_1⟩ := at_T109 HR0.out x3_1 p185 q185
                          have hw185_1 := hx185_1
                          have hw185_0 := hx185_0
                          cases e185
                          replace hx185_0 := (HB.out.cell (World.block_lt_of_cell? w _ hx185_0)).trans hx185_0
                          replace hx185_1 := (HB.out.cell (World.block_lt_of_cell? w _ hx185_1)).trans hx185_1
                          replace p185 := eq_true p185
                          replace q185 := eq_true q185
                          have p187 : 0 ≤ (x3_1 : Int) := of_decide_eq_true (by first | (with_reducible assumption) | assumption)
                          have q187 : x3_1 < (l0.length : Int) := of_decide_eq_true (by first | (with_reducible assumption) | assumption)
                          obtain ⟨ad187, e187, hx187_0, hx187_1⟩ := at_T109 HR0.out x3_1 p187 q187
                          have hw187_1 := hx187_1
                          have hw187_0 := hx187_0
                          obtain rfl : ad185 = ad187 := (by injection e187)
                          replace hx187_0 := (HB.out.cell (World.block_lt_of_cell? w _ hx187_0)).trans hx187_0
                          replace hx187_1 := (HB.out.cell (World.block_lt_of_cell? w _ hx187_1)).trans hx187_1
                          replace p187 := eq_true p187
                          replace q187 := eq_true q187
                          have p189 : 0 ≤ ((ji9) : Int) := of_decide_eq_true (by first | (with_reducible assumption) | assumption)
                          have q189 : (ji9) < (l0.length : Int) := of_decide_eq_true (by first | (with_reducible assumption) | assumption)
                          obtain ⟨ad189, e189, hx189_0, hx189_1⟩ := at_T109 HR0.out (ji9) p189 q189
                          have hw189_1 := hx189_1
                          have hw189_0 := hx189_0
                          obtain rfl : ad185 = ad189 := (by injection e189)
                          replace hx189_0 := (HB.out.cell (World.block_lt_of_cell? w _ hx189_0)).trans hx189_0
                          replace hx189_1 := (HB.out.cell (World.block_lt_of_cell? w _ hx189_1)).trans hx189_1
                          replace p189 := eq_true p189
                          replace q189 := eq_true q189
                          have p190 : 0 ≤ (x3_1 : Int) := of_decide_eq_true (by first | (with_reducible assumption) | assumption)
                          have q190 : x3_1 < (l0.length : Int) := of_decide_eq_true (by first | (with_reducible assumption) | assumption)
                          obtain ⟨ad190, e190, hx190_0, hx190_1⟩ := at_T109 HR0.out x3_1 p190 q190
                          have hw190_1 := hx190_1
                          have hw190_0 := hx190_0
                          obtain rfl : ad185 = ad190 := (by injection e190)
                          replace hx190_0 := (HB.out.cell (World.block_lt_of_cell? w _ hx190_0)).trans hx190_0
                          replace hx190_1 := (HB.out.cell (World.block_lt_of_cell? w _ hx190_1)).trans hx190_1
                          replace p190 := eq_true p190
                          replace q190 := eq_true q190
                          have p191 : 0 ≤ ((ji9) : Int) := of_decide_eq_true (by first | (with_reducible assumption) | assumption)
                          have q191 : (ji9) < (l0.length : Int) := of_decide_eq_true (by first | (with_reducible assumption) | assumption)
                          obtain ⟨ad191, e191, hx191_0, hx191_1⟩ := at_T109 HR0.out (ji9) p191 q191
                          have hw191_1 := hx191_1
                          have hw191_0 := hx191_0
                          obtain rfl : ad185 = ad191 := (by injection e191)
                          replace hx191_0 := (HB.out.cell (World.block_lt_of_cell? w _ hx191_0)).trans hx191_0
                          replace hx191_1 := (HB.out.cell (World.block_lt_of_cell? w _ hx191_1)).trans hx191_1
                          replace p191 := eq_true p191
                          replace q191 := eq_true q191
                          have p192 : 0 ≤ (x3_1 : Int) := of_decide_eq_true (by first | (with_reducible assumption) | assumption)
                          have q192 : x3_1 < (l0.length : Int) := of_decide_eq_true (by first | (with_reducible assumption) | assumption)
                          obtain ⟨ad192, e192, hx192_0, hx192_1⟩ := at_T109 HR0.out x3_1 p192 q192
                          have hw192_1 := hx192_1
                          have hw192_0 := hx192_0
                          obtain rfl : ad185 = ad192 := (by injection e192)
                          replace hx192_0 := (HB.out.cell (World.block_lt_of_cell? w _ hx192_0)).trans hx192_0
                          replace hx192_1 := (HB.out.cell (World.block_lt_of_cell? w _ hx192_1)).trans hx192_1
                          replace p192 := eq_true p192
                          replace q192 := eq_true q192
                          have p193 : 0 ≤ ((ji9) : Int) := of_decide_eq_true (by first | (with_reducible assumption) | assumption)
                          have q193 : (ji9) < (l0.length : Int) := of_decide_eq_true (by first | (with_reducible assumption) | assumption)
                          obtain ⟨ad193, e193, hx193_0, hx193_1⟩ := at_T109 HR0.out (ji9) p193 q193
                          have hw193_1 := hx193_1
                          have hw193_0 := hx193_0
                          obtain rfl : ad185 = ad193 := (by injection e193)
                          replace hx193_0 := (HB.out.cell (World.block_lt_of_cell? w _ hx193_0)).trans hx193_0
                          replace hx193_1 := (HB.out.cell (World.block_lt_of_cell? w _ hx193_1)).trans hx193_1
                          replace p193 := eq_true p193
                          replace q193 := eq_true q193
                          have p194 : 0 ≤ (x3_1 : Int) := of_decide_eq_true (by first | (with_reducible assumption) | assumption)
                          have q194 : x3_1 < (l0.length : Int) := of_decide_eq_true (by first | (with_reducible assumption) | assumption)
                          obtain ⟨ad194, e194, hx194_0, hx194_1⟩ := at_T109 HR0.out x3_1 p194 q194
                          have hw194_1 := hx194_1
                          have hw194_0 := hx194_0
                          obtain rfl : ad185 = ad194 := (by injection e194)
                          replace hx194_0 := (HB.out.cell (World.block_lt_of_cell? w _ hx194_0)).trans hx194_0
                          replace hx194_1 := (HB.out.cell (World.block_lt_of_cell? w _ hx194_1)).trans hx194_1
                          replace p194 := eq_true p194
                          replace q194 := eq_true q194
                          have hq0_ : wr.cell? (ad185.add ((x3_1).toNat * 2)) = some (.int .i64 ((rd_T109 l0 x3_1).f0)) := ((HB.out.cell (World.block_lt_of_cell? w _ hw185_0)).trans hw185_0)
                          have hq1_ : wr.cell? ⟨(ad185.add ((x3_1).toNat * 2)).block, (ad185.add ((x3_1).toNat * 2)).off + 1, none⟩ = some (.int .i64 ((rd_T109 l0 x3_1).f1)) := ((HB.out.cell (World.block_lt_of_cell? w _ hw185_1)).trans hw185_1)
                          have hq2_ : wr.cell? (ad185.add ((x3_1).toNat * 2)) = some (.int .i64 ((rd_T109 l0 x3_1).f0)) := ((HB.out.cell (World.block_lt_of_cell? w _ hw187_0)).trans hw187_0)
                          have hq3_ : wr.cell? ⟨(ad185.add ((x3_1).toNat * 2)).block, (ad185.add ((x3_1).toNat * 2)).off + 1, none⟩ = some (.int .i64 ((rd_T109 l0 x3_1).f1)) := ((HB.out.cell (World.block_lt_of_cell? w _ hw187_1)).trans hw187_1)
                          have hq4_ : wr.cell? (ad185.add (((ji9)).toNat * 2)) = some (.int .i64 ((rd_T109 l0 (ji9)).f0)) := ((HB.out.cell (World.block_lt_of_cell? w _ hw189_0)).trans hw189_0)
                          have hq5_ : wr.cell? ⟨(ad185.add (((ji9)).toNat * 2)).block, (ad185.add (((ji9)).toNat * 2)).off + 1, none⟩ = some (.int .i64 ((rd_T109 l0 (ji9)).f1)) := ((HB.out.cell (World.block_lt_of_cell? w _ hw189_1)).trans hw189_1)
                          have hq6_ : wr.cell? (ad185.add ((x3_1).toNat * 2)) = some (.int .i64 ((rd_T109 l0 x3_1).f0)) := ((HB.out.cell (World.block_lt_of_cell? w _ hw190_0)).trans hw190_0)
                          have hq7_ : wr.cell? ⟨(ad185.add ((x3_1).toNat * 2)).block, (ad185.add ((x3_1).toNat * 2)).off + 1, none⟩ = some (.int .i64 ((rd_T109 l0 x3_1).f1)) := ((HB.out.cell (World.block_lt_of_cell? w _ hw190_1)).trans hw190_1)
                          have hq8_ : wr.cell? (ad185.add (((ji9)).toNat * 2)) = some (.int .i64 ((rd_T109 l0 (ji9)).f0)) := ((HB.out.cell (World.block_lt_of_cell? w _ hw191_0)).trans hw191_0)
                          have hq9_ : wr.cell? ⟨(ad185.add (((ji9)).toNat * 2)).block, (ad185.add (((ji9)).toNat * 2)).off + 1, none⟩ = some (.int .i64 ((rd_T109 l0 (ji9)).f1)) := ((HB.out.cell (World.block_lt_of_cell? w _ hw191_1)).trans hw191_1)
                          have hq10_ : wr.cell? (ad185.add ((x3_1).toNat * 2)) = some (.int .i64 ((rd_T109 l0 x3_1).f0)) := ((HB.out.cell (World.block_lt_of_cell? w _ hw192_0)).trans hw192_0)
                          have hq11_ : wr.cell? ⟨(ad185.add ((x3_1).toNat * 2)).block, (ad185.add ((x3_1).toNat * 2)).off + 1, none⟩ = some (.int .i64 ((rd_T109 l0 x3_1).f1)) := ((HB.out.cell (World.block_lt_of_cell? w _ hw192_1)).trans hw192_1)
                          have hq12_ : wr.cell? (ad185.add (((ji9)).toNat * 2)) = some (.int .i64 ((rd_T109 l0 (ji9)).f0)) := ((HB.out.cell (World.block_lt_of_cell? w _ hw193_0)).trans hw193_0)
                          have hq13_ : wr.cell? ⟨(ad185.add (((ji9)).toNat * 2)).block, (ad185.add (((ji9)).toNat * 2)).off + 1, none⟩ = some (.int .i64 ((rd_T109 l0 (ji9)).f1)) := ((HB.out.cell (World.block_lt_of_cell? w _ hw193_1)).trans hw193_1)
                          have hq14_ : wr.cell? (ad185.add ((x3_1).toNat * 2)) = some (.int .i64 ((rd_T109 l0 x3_1).f0)) := ((HB.out.cell (World.block_lt_of_cell? w _ hw194_0)).trans hw194_0)
                          have hq15_ : wr.cell? ⟨(ad185.add ((x3_1).toNat * 2)).block, (ad185.add ((x3_1).toNat * 2)).off + 1, none⟩ = some (.int .i64 ((rd_T109 l0 x3_1).f1)) := ((HB.out.cell (World.block_lt_of_cell? w _ hw194_1)).trans hw194_1)
                          go_quiet ((first | (go_at_call 80; apply Calls.quiet_of; ((with_reducible refine (spec_l1In.calls ((rd_T109 l0 x3_1).f0) 0 10000000 true _ A4.out).mono ?_); exact fun _ _ h_ => ⟨h_.1, h_.2.out⟩)) | (go_at_call 80; apply Calls.quiet_of; ((with_reducible refine (spec_l1In.calls ((rd_T109 l0 x3_1).f1) 0 127 true _ A6.out).mono ?_); exact fun _ _ h_ => ⟨h_.1, h_.2.out⟩))))
                          have nHB_ := Aside0.mk (pw_below_drewN (W := wr) ⟨HB.out.os, HB.out.tape, HB.out.output, HB.out.size, HB.out.block⟩ nq)
                          have nhx185_0_ : (wr.drewN nq).cell? _ = _ := hx185_0
                          have nhx185_1_ : (wr.drewN nq).cell? _ = _ := hx185_1
                          have nhx187_0_ : (wr.drewN nq).cell? _ = _ := hx187_0
                          have nhx187_1_ : (wr.drewN nq).cell? _ = _ := hx187_1
                          have nhx189_0_ : (wr.drewN nq).cell? _ = _ := hx189_0
                          have nhx189_1_ : (wr.drewN nq).cell? _ = _ := hx189_1
                          have nhx190_0_ : (wr.drewN nq).cell? _ = _ := hx190_0
                          have nhx190_1_ : (wr.drewN nq).cell? _ = _ := hx190_1
                          have nhx191_0_ : (wr.drewN nq).cell? _ = _ := hx191_0
                          have nhx191_1_ : (wr.drewN nq).cell? _ = _ := hx191_1
                          have nhx192_0_ : (wr.drewN nq).cell? _ = _ := hx192_0
                          have nhx192_1_ : (wr.drewN nq).cell? _ = _ := hx192_1
                          have nhx193_0_ : (wr.drewN nq).cell? _ = _ := hx193_0
                          have nhx193_1_ : (wr.drewN nq).cell? _ = _ := hx193_1
                          have nhx194_0_ : (wr.drewN nq).cell? _ = _ := hx194_0
                          have nhx194_1_ : (wr.drewN nq).cell? _ = _ := hx194_1
                          clear HB hx185_0 hx185_1 hx187_0 hx187_1 hx189_0 hx189_1 hx190_0 hx190_1 hx191_0 hx191_1 hx192_0 hx192_1 hx193_0 hx193_1 hx194_0 hx194_1 hq0_ hq1_ hq2_ hq3_ hq4_ hq5_ hq6_ hq7_ hq8_ hq9_ hq10_ hq11_ hq12_ hq13_ hq14_ hq15_
                          have HB := nHB_
                          have hx185_0 := nhx185_0_
                          have hx185_1 := nhx185_1_
                          have hx187_0 := nhx187_0_
                          have hx187_1 := nhx187_1_
                          have hx189_0 := nhx189_0_
                          have hx189_1 := nhx189_1_
                          have hx190_0 := nhx190_0_
                          have hx190_1 := nhx190_1_
                          have hx191_0 := nhx191_0_
                          have hx191_1 := nhx191_1_
                          have hx192_0 := nhx192_0_
                          have hx192_1 := nhx192_1_
                          have hx193_0 := nhx193_0_
                          have hx193_1 := nhx193_1_
                          have hx194_0 := nhx194_0_
                          have hx194_1 := nhx194_1_
                          clear nHB_ nhx185_0_ nhx185_1_ nhx187_0_ nhx187_1_ nhx189_0_ nhx189_1_ nhx190_0_ nhx190_1_ nhx191_0_ nhx191_1_ nhx192_0_ nhx192_1_ nhx193_0_ nhx193_1_ nhx194_0_ nhx194_1_
                          generalize wr.drewN nq = w16 at HB hx185_0 hx185_1 hx187_0 hx187_1 hx189_0 hx189_1 hx190_0 hx190_1 hx191_0 hx191_1 hx192_0 hx192_1 hx193_0 hx193_1 hx194_0 hx194_1 ⊢
                          try go_wp2
                          go_ret
                          exact ⟨by first | rfl | (simp [errW_none, errW_some] <;> rfl) | (simp only [← hji9]; first | rfl | (simp [errW_none, errW_some] <;> rfl)) | (simp [*, errW_none, errW_some] <;> rfl), by repeat (first | (with_reducible first | exact HB.out | apply below_alloc | apply pw_below_drewN | apply below_drew1) | exact HB.out)⟩
                        · rw [if_neg c15] at H
                          have c15b0 : decide (((rd_T109 l0 x3_1).f1) < ((rd_T109 l0 (ji9)).f1)) = false := decide_eq_false c15
                          clear c15
                          have H' := Aside0.mk H
                          clear H
                          try go_wp2
                          have n0_ := Aside0.mk (below_drew1 HB.out)
                          clear HB
                          have HB := n0_
                          clear n0_
                          have p185 : 0 ≤ (x3_1 : Int) := of_decide_eq_true (by first | (with_reducible assumption) | assumption)
                          have q185 : x3_1 < (l0.length : Int) := of_decide_eq_true (by first | (with_reducible assumption) | assumption)
                          obtain ⟨ad185, e185, hx185_0, hx185_1⟩ := at_T109 HR0.out x3_1 p185 q185
                          have hw185_1 := hx185_1
                          have hw185_0 := hx185_0
                          cases e185
                          replace hx185_0 := (HB.out.cell (World.block_lt_of_cell? w _ hx185_0)).trans hx185_0
                          replace hx185_1 := (HB.out.cell (World.block_lt_of_cell? w _ hx185_1)).trans hx185_1
                          replace p185 := eq_true p185
                          replace q185 := eq_true q185
                          have p187 : 0 ≤ (x3_1 : Int) := of_decide_eq_true (by first | (with_reducible assumption) | assumption)
                          have q187 : x3_1 < (l0.length : Int) := of_decide_eq_true (by first | (with_reducible assumption) | assumption)
                          obtain ⟨ad187, e187, hx187_0, hx187_1⟩ := at_T109 HR0.out x3_1 p187 q187
                          have hw187_1 := hx187_1
                          have hw187_0 := hx187_0
                          obtain rfl : ad185 = ad187 := (by injection e187)
                          replace hx187_0 := (HB.out.cell (World.block_lt_of_cell? w _ hx187_0)).trans hx187_0
                          replace hx187_1 := (HB.out.cell (World.block_lt_of_cell? w _ hx187_1)).trans hx187_1
                          replace p187 := eq_true p187
                          replace q187 := eq_true q187
                          have p189 : 0 ≤ ((ji9) : Int) := of_decide_eq_true (by first | (with_reducible assumption) | assumption)
                          have q189 : (ji9) < (l0.length : Int) := of_decide_eq_true (by first | (with_reducible assumption) | assumption)
                          obtain ⟨ad189, e189, hx189_0, hx189_1⟩ := at_T109 HR0.out (ji9) p189 q189
                          have hw189_1 := hx189_1
                          have hw189_0 := hx189_0
                          obtain rfl : ad185 = ad189 := (by injection e189)
                          replace hx189_0 := (HB.out.cell (World.block_lt_of_cell? w _ hx189_0)).trans hx189_0
                          replace hx189_1 := (HB.out.cell (World.block_lt_of_cell? w _ hx189_1)).trans hx189_1
                          replace p189 := eq_true p189
                          replace q189 := eq_true q189
                          have p190 : 0 ≤ (x3_1 : Int) := of_decide_eq_true (by first | (with_reducible assumption) | assumption)
                          have q190 : x3_1 < (l0.length : Int) := of_decide_eq_true (by first | (with_reducible assumption) | assumption)
                          obtain ⟨ad190, e190, hx190_0, hx190_1⟩ := at_T109 HR0.out x3_1 p190 q190
                          have hw190_1 := hx190_1
                          have hw190_0 := hx190_0
                          obtain rfl : ad185 = ad190 := (by injection e190)
                          replace hx190_0 := (HB.out.cell (World.block_lt_of_cell? w _ hx190_0)).trans hx190_0
                          replace hx190_1 := (HB.out.cell (World.block_lt_of_cell? w _ hx190_1)).trans hx190_1
                          replace p190 := eq_true p190
                          replace q190 := eq_true q190
                          have p191 : 0 ≤ ((ji9) : Int) := of_decide_eq_true (by first | (with_reducible assumption) | assumption)
                          have q191 : (ji9) < (l0.length : Int) := of_decide_eq_true (by first | (with_reducible assumption) | assumption)
                          obtain ⟨ad191, e191, hx191_0, hx191_1⟩ := at_T109 HR0.out (ji9) p191 q191
                          have hw191_1 := hx191_1
                          have hw191_0 := hx191_0
                          obtain rfl : ad185 = ad191 := (by injection e191)
                          replace hx191_0 := (HB.out.cell (World.block_lt_of_cell? w _ hx191_0)).trans hx191_0
                          replace hx191_1 := (HB.out.cell (World.block_lt_of_cell? w _ hx191_1)).trans hx191_1
                          replace p191 := eq_true p191
                          replace q191 := eq_true q191
                          have p192 : 0 ≤ (x3_1 : Int) := of_decide_eq_true (by first | (with_reducible assumption) | assumption)
                          have q192 : x3_1 < (l0.length : Int) := of_decide_eq_true (by first | (with_reducible assumption) | assumption)
                          obtain ⟨ad192, e192, hx192_0, hx192_1⟩ := at_T109 HR0.out x3_1 p192 q192
                          have hw192_1 := hx192_1
                          have hw192_0 := hx192_0
                          obtain rfl : ad185 = ad192 := (by injection e192)
                          replace hx192_0 := (HB.out.cell (World.block_lt_of_cell? w _ hx192_0)).trans hx192_0
                          replace hx192_1 := (HB.out.cell (World.block_lt_of_cell? w _ hx192_1)).trans hx192_1
                          replace p192 := eq_true p192
                          replace q192 := eq_true q192
                          have p193 : 0 ≤ ((ji9) : Int) := of_decide_eq_true (by first | (with_reducible assumption) | assumption)
                          have q193 : (ji9) < (l0.length : Int) := of_decide_eq_true (by first | (with_reducible assumption) | assumption)
                          obtain ⟨ad193, e193, hx193_0, hx193_1⟩ := at_T109 HR0.out (ji9) p193 q193
                          have hw193_1 := hx193_1
                          have hw193_0 := hx193_0
                          obtain rfl : ad185 = ad193 := (by injection e193)
                          replace hx193_0 := (HB.out.cell (World.block_lt_of_cell? w _ hx193_0)).trans hx193_0
                          replace hx193_1 := (HB.out.cell (World.block_lt_of_cell? w _ hx193_1)).trans hx193_1
                          replace p193 := eq_true p193
                          replace q193 := eq_true q193
                          have p194 : 0 ≤ (x3_1 : Int) := of_decide_eq_true (by first | (with_reducible assumption) | assumption)
                          have q194 : x3_1 < (l0.length : Int) := of_decide_eq_true (by first | (with_reducible assumption) | assumption)
                          obtain ⟨ad194, e194, hx194_0, hx194_1⟩ := at_T109 HR0.out x3_1 p194 q194
                          have hw194_1 := hx194_1
                          have hw194_0 := hx194_0
                          obtain rfl : ad185 = ad194 := (by injection e194)
                          replace hx194_0 := (HB.out.cell (World.block_lt_of_cell? w _ hx194_0)).trans hx194_0
                          replace hx194_1 := (HB.out.cell (World.block_lt_of_cell? w _ hx194_1)).trans hx194_1
                          replace p194 := eq_true p194
                          replace q194 := eq_true q194
                          have hq0_ : wr.cell? (ad185.add ((x3_1).toNat * 2)) = some (.int .i64 ((rd_T109 l0 x3_1).f0)) := ((HB.out.cell (World.block_lt_of_cell? w _ hw185_0)).trans hw185_0)
                          have hq1_ : wr.cell? ⟨(ad185.add ((x3_1).toNat * 2)).block, (ad185.add ((x3_1).toNat * 2)).off + 1, none⟩ = some (.int .i64 ((rd_T109 l0 x3_1).f1)) := ((HB.out.cell (World.block_lt_of_cell? w _ hw185_1)).trans hw185_1)
                          have hq2_ : wr.cell? (ad185.add ((x3_1).toNat * 2)) = some (.int .i64 ((rd_T109 l0 x3_1).f0)) := ((HB.out.cell (World.block_lt_of_cell? w _ hw187_0)).trans hw187_0)
                          have hq3_ : wr.cell? ⟨(ad185.add ((x3_1).toNat * 2)).block, (ad185.add ((x3_1).toNat * 2)).off + 1, none⟩ = some (.int .i64 ((rd_T109 l0 x3_1).f1)) := ((HB.out.cell (World.block_lt_of_cell? w _ hw187_1)).trans hw187_1)
                          have hq4_ : wr.cell? (ad185.add (((ji9)).toNat * 2)) = some (.int .i64 ((rd_T109 l0 (ji9)).f0)) := ((HB.out.cell (World.block_lt_of_cell? w _ hw189_0)).trans hw189_0)
                          have hq5_ : wr.cell? ⟨(ad185.add (((ji9)).toNat * 2)).block, (ad185.add (((ji9)).toNat * 2)).off + 1, none⟩ = some (.int .i64 ((rd_T109 l0 (ji9)).f1)) := ((HB.out.cell (World.block_lt_of_cell? w _ hw189_1)).trans hw189_1)
                          have hq6_ : wr.cell? (ad185.add ((x3_1).toNat * 2)) = some (.int .i64 ((rd_T109 l0 x3_1).f0)) := ((HB.out.cell (World.block_lt_of_cell? w _ hw190_0)).trans hw190_0)
                          have hq7_ : wr.cell? ⟨(ad185.add ((x3_1).toNat * 2)).block, (ad185.add ((x3_1).toNat * 2)).off + 1, none⟩ = some (.int .i64 ((rd_T109 l0 x3_1).f1)) := ((HB.out.cell (World.block_lt_of_cell? w _ hw190_1)).trans hw190_1)
                          have hq8_ : wr.cell? (ad185.add (((ji9)).toNat * 2)) = some (.int .i64 ((rd_T109 l0 (ji9)).f0)) := ((HB.out.cell (World.block_lt_of_cell? w _ hw191_0)).trans hw191_0)
                          have hq9_ : wr.cell? ⟨(ad185.add (((ji9)).toNat * 2)).block, (ad185.add (((ji9)).toNat * 2)).off + 1, none⟩ = some (.int .i64 ((rd_T109 l0 (ji9)).f1)) := ((HB.out.cell (World.block_lt_of_cell? w _ hw191_1)).trans hw191_1)
                          have hq10_ : wr.cell? (ad185.add ((x3_1).toNat * 2)) = some (.int .i64 ((rd_T109 l0 x3_1).f0)) := ((HB.out.cell (World.block_lt_of_cell? w _ hw192_0)).trans hw192_0)
                          have hq11_ : wr.cell? ⟨(ad185.add ((x3_1).toNat * 2)).block, (ad185.add ((x3_1).toNat * 2)).off + 1, none⟩ = some (.int .i64 ((rd_T109 l0 x3_1).f1)) := ((HB.out.cell (World.block_lt_of_cell? w _ hw192_1)).trans hw192_1)
                          have hq12_ : wr.cell? (ad185.add (((ji9)).toNat * 2)) = some (.int .i64 ((rd_T109 l0 (ji9)).f0)) := ((HB.out.cell (World.block_lt_of_cell? w _ hw193_0)).trans hw193_0)
                          have hq13_ : wr.cell? ⟨(ad185.add (((ji9)).toNat * 2)).block, (ad185.add (((ji9)).toNat * 2)).off + 1, none⟩ = some (.int .i64 ((rd_T109 l0 (ji9)).f1)) := ((HB.out.cell (World.block_lt_of_cell? w _ hw193_1)).trans hw193_1)
                          have hq14_ : wr.cell? (ad185.add ((x3_1).toNat * 2)) = some (.int .i64 ((rd_T109 l0 x3_1).f0)) := ((HB.out.cell (World.block_lt_of_cell? w _ hw194_0)).trans hw194_0)
                          have hq15_ : wr.cell? ⟨(ad185.add ((x3_1).toNat * 2)).block, (ad185.add ((x3_1).toNat * 2)).off + 1, none⟩ = some (.int .i64 ((rd_T109 l0 x3_1).f1)) := ((HB.out.cell (World.block_lt_of_cell? w _ hw194_1)).trans hw194_1)
                          go_quiet ((first | (go_at_call 80; apply Calls.quiet_of; ((with_reducible refine (spec_l1In.calls ((rd_T109 l0 x3_1).f0) 0 10000000 true _ A4.out).mono ?_); exact fun _ _ h_ => ⟨h_.1, h_.2.out⟩)) | (go_at_call 80; apply Calls.quiet_of; ((with_reducible refine (spec_l1In.calls ((rd_T109 l0 x3_1).f1) 0 127 true _ A6.out).mono ?_); exact fun _ _ h_ => ⟨h_.1, h_.2.out⟩))))
                          have nHB_ := Aside0.mk (pw_below_drewN (W := wr) ⟨HB.out.os, HB.out.tape, HB.out.output, HB.out.size, HB.out.block⟩ nq)
                          have nhx185_0_ : (wr.drewN nq).cell? _ = _ := hx185_0
                          have nhx185_1_ : (wr.drewN nq).cell? _ = _ := hx185_1
                          have nhx187_0_ : (wr.drewN nq).cell? _ = _ := hx187_0
                          have nhx187_1_ : (wr.drewN nq).cell? _ = _ := hx187_1
                          have nhx189_0_ : (wr.drewN nq).cell? _ = _ := hx189_0
                          have nhx189_1_ : (wr.drewN nq).cell? _ = _ := hx189_1
                          have nhx190_0_ : (wr.drewN nq).cell? _ = _ := hx190_0
                          have nhx190_1_ : (wr.drewN nq).cell? _ = _ := hx190_1
                          have nhx191_0_ : (wr.drewN nq).cell? _ = _ := hx191_0
                          have nhx191_1_ : (wr.drewN nq).cell? _ = _ := hx191_1
                          have nhx192_0_ : (wr.drewN nq).cell? _ = _ := hx192_0
                          have nhx192_1_ : (wr.drewN nq).cell? _ = _ := hx192_1
                          have nhx193_0_ : (wr.drewN nq).cell? _ = _ := hx193_0
                          have nhx193_1_ : (wr.drewN nq).cell? _ = _ := hx193_1
                          have nhx194_0_ : (wr.drewN nq).cell? _ = _ := hx194_0
                          have nhx194_1_ : (wr.drewN nq).cell? _ = _ := hx194_1
                          clear HB hx185_0 hx185_1 hx187_0 hx187_1 hx189_0 hx189_1 hx190_0 hx190_1 hx191_0 hx191_1 hx192_0 hx192_1 hx193_0 hx193_1 hx194_0 hx194_1 hq0_ hq1_ hq2_ hq3_ hq4_ hq5_ hq6_ hq7_ hq8_ hq9_ hq10_ hq11_ hq12_ hq13_ hq14_ hq15_
                          have HB := nHB_
                          have hx185_0 := nhx185_0_
                          have hx185_1 := nhx185_1_
                          have hx187_0 := nhx187_0_
                          have hx187_1 := nhx187_1_
                          have hx189_0 := nhx189_0_
                          have hx189_1 := nhx189_1_
                          have hx190_0 := nhx190_0_
                          have hx190_1 := nhx190_1_
                          have hx191_0 := nhx191_0_
                          have hx191_1 := nhx191_1_
                          have hx192_0 := nhx192_0_
                          have hx192_1 := nhx192_1_
                          have hx193_0 := nhx193_0_
                          have hx193_1 := nhx193_1_
                          have hx194_0 := nhx194_0_
                          have hx194_1 := nhx194_1_
                          clear nHB_ nhx185_0_ nhx185_1_ nhx187_0_ nhx187_1_ nhx189_0_ nhx189_1_ nhx190_0_ nhx190_1_ nhx191_0_ nhx191_1_ nhx192_0_ nhx192_1_ nhx193_0_ nhx193_1_ nhx194_0_ nhx194_1_
                          generalize wr.drewN nq = w17 at HB hx185_0 hx185_1 hx187_0 hx187_1 hx189_0 hx189_1 hx190_0 hx190_1 hx191_0 hx191_1 hx192_0 hx192_1 hx193_0 hx193_1 hx194_0 hx194_1 ⊢
                          try go_wp2
                          go_roundg k1
                          case measure => have := HK1.out; omega
                          case rel => exact ⟨(wrap64 (x3_1 + 1)), (by first | rfl | (simp; done) | (simp [*]; done)), H', ⟨by have := HK1.out; omega⟩, ⟨by repeat (first | (with_reducible first | exact HB.out | apply below_alloc | apply pw_below_drewN | apply below_drew1) | exact HB.out)⟩⟩
                      · rw [if_neg c14] at H
                        have c14b0 : (((rd_T109 l0 (ji9)).f0) == ((rd_T109 l0 x3_1).f0)) = false := beq_eq_false_iff_ne.mpr c14
                        have c14b1 : (((rd_T109 l0 (ji9)).f0) != ((rd_T109 l0 x3_1).f0)) = true := bne_iff_ne.mpr c14
                        have H' := Aside0.mk H
                        clear H
                        try go_wp2
                        have n0_ := Aside0.mk (below_drew1 HB.out)
                        clear HB
                        have HB := n0_
                        clear n0_
                        have p185 : 0 ≤ (x3_1 : Int) := of_decide_eq_true (by first | (with_reducible assumption) | assumption)
                        have q185 : x3_1 < (l0.length : Int) := of_decide_eq_true (by first | (with_reducible assumption) | assumption)
                        obtain ⟨ad185, e185, hx185_0, hx185_1⟩ := at_T109 HR0.out x3_1 p185 q185
                        have hw185_1 := hx185_1
                        have hw185_0 := hx185_0
                        cases e185
                        replace hx185_0 := (HB.out.cell (World.block_lt_of_cell? w _ hx185_0)).trans hx185_0
                        replace hx185_1 := (HB.out.cell (World.block_lt_of_cell? w _ hx185_1)).trans hx185_1
                        replace p185 := eq_true p185
                        replace q185 := eq_true q185
                        have p187 : 0 ≤ (x3_1 : Int) := of_decide_eq_true (by first | (with_reducible assumption) | assumption)
                        have q187 : x3_1 < (l0.length : Int) := of_decide_eq_true (by first | (with_reducible assumption) | assumption)
                        obtain ⟨ad187, e187, hx187_0, hx187_1⟩ := at_T109 HR0.out x3_1 p187 q187
                        have hw187_1 := hx187_1
                        have hw187_0 := hx187_0
                        obtain rfl : ad185 = ad187 := (by injection e187)
                        replace hx187_0 := (HB.out.cell (World.block_lt_of_cell? w _ hx187_0)).trans hx187_0
                        replace hx187_1 := (HB.out.cell (World.block_lt_of_cell? w _ hx187_1)).trans hx187_1
                        replace p187 := eq_true p187
                        replace q187 := eq_true q187
                        have p189 : 0 ≤ ((ji9) : Int) := of_decide_eq_true (by first | (with_reducible assumption) | assumption)
                        have q189 : (ji9) < (l0.length : Int) := of_decide_eq_true (by first | (with_reducible assumption) | assumption)
                        obtain ⟨ad189, e189, hx189_0, hx189_1⟩ := at_T109 HR0.out (ji9) p189 q189
                        have hw189_1 := hx189_1
                        have hw189_0 := hx189_0
                        obtain rfl : ad185 = ad189 := (by injection e189)
                        replace hx189_0 := (HB.out.cell (World.block_lt_of_cell? w _ hx189_0)).trans hx189_0
                        replace hx189_1 := (HB.out.cell (World.block_lt_of_cell? w _ hx189_1)).trans hx189_1
                        replace p189 := eq_true p189
                        replace q189 := eq_true q189
                        have p190 : 0 ≤ (x3_1 : Int) := of_decide_eq_true (by first | (with_reducible assumption) | assumption)
                        have q190 : x3_1 < (l0.length : Int) := of_decide_eq_true (by first | (with_reducible assumption) | assumption)
                        obtain ⟨ad190, e190, hx190_0, hx190_1⟩ := at_T109 HR0.out x3_1 p190 q190
                        have hw190_1 := hx190_1
                        have hw190_0 := hx190_0
                        obtain rfl : ad185 = ad190 := (by injection e190)
                        replace hx190_0 := (HB.out.cell (World.block_lt_of_cell? w _ hx190_0)).trans hx190_0
                        replace hx190_1 := (HB.out.cell (World.block_lt_of_cell? w _ hx190_1)).trans hx190_1
                        replace p190 := eq_true p190
                        replace q190 := eq_true q190
                        have p191 : 0 ≤ ((ji9) : Int) := of_decide_eq_true (by first | (with_reducible assumption) | assumption)
                        have q191 : (ji9) < (l0.length : Int) := of_decide_eq_true (by first | (with_reducible assumption) | assumption)
                        obtain ⟨ad191, e191, hx191_0, hx191_1⟩ := at_T109 HR0.out (ji9) p191 q191
                        have hw191_1 := hx191_1
                        have hw191_0 := hx191_0
                        obtain rfl : ad185 = ad191 := (by injection e191)
                        replace hx191_0 := (HB.out.cell (World.block_lt_of_cell? w _ hx191_0)).trans hx191_0
                        replace hx191_1 := (HB.out.cell (World.block_lt_of_cell? w _ hx191_1)).trans hx191_1
                        replace p191 := eq_true p191
                        replace q191 := eq_true q191
                        have p192 : 0 ≤ (x3_1 : Int) := of_decide_eq_true (by first | (with_reducible assumption) | assumption)
                        have q192 : x3_1 < (l0.length : Int) := of_decide_eq_true (by first | (with_reducible assumption) | assumption)
                        obtain ⟨ad192, e192, hx192_0, hx192_1⟩ := at_T109 HR0.out x3_1 p192 q192
                        have hw192_1 := hx192_1
                        have hw192_0 := hx192_0
                        obtain rfl : ad185 = ad192 := (by injection e192)
                        replace hx192_0 := (HB.out.cell (World.block_lt_of_cell? w _ hx192_0)).trans hx192_0
                        replace hx192_1 := (HB.out.cell (World.block_lt_of_cell? w _ hx192_1)).trans hx192_1
                        replace p192 := eq_true p192
                        replace q192 := eq_true q192
                        have hq0_ : wr.cell? (ad185.add ((x3_1).toNat * 2)) = some (.int .i64 ((rd_T109 l0 x3_1).f0)) := ((HB.out.cell (World.block_lt_of_cell? w _ hw185_0)).trans hw185_0)
                        have hq1_ : wr.cell? ⟨(ad185.add ((x3_1).toNat * 2)).block, (ad185.add ((x3_1).toNat * 2)).off + 1, none⟩ = some (.int .i64 ((rd_T109 l0 x3_1).f1)) := ((HB.out.cell (World.block_lt_of_cell? w _ hw185_1)).trans hw185_1)
                        have hq2_ : wr.cell? (ad185.add ((x3_1).toNat * 2)) = some (.int .i64 ((rd_T109 l0 x3_1).f0)) := ((HB.out.cell (World.block_lt_of_cell? w _ hw187_0)).trans hw187_0)
                        have hq3_ : wr.cell? ⟨(ad185.add ((x3_1).toNat * 2)).block, (ad185.add ((x3_1).toNat * 2)).off + 1, none⟩ = some (.int .i64 ((rd_T109 l0 x3_1).f1)) := ((HB.out.cell (World.block_lt_of_cell? w _ hw187_1)).trans hw187_1)
                        have hq4_ : wr.cell? (ad185.add (((ji9)).toNat * 2)) = some (.int .i64 ((rd_T109 l0 (ji9)).f0)) := ((HB.out.cell (World.block_lt_of_cell? w _ hw189_0)).trans hw189_0)
                        have hq5_ : wr.cell? ⟨(ad185.add (((ji9)).toNat * 2)).block, (ad185.add (((ji9)).toNat * 2)).off + 1, none⟩ = some (.int .i64 ((rd_T109 l0 (ji9)).f1)) := ((HB.out.cell (World.block_lt_of_cell? w _ hw189_1)).trans hw189_1)
                        have hq6_ : wr.cell? (ad185.add ((x3_1).toNat * 2)) = some (.int .i64 ((rd_T109 l0 x3_1).f0)) := ((HB.out.cell (World.block_lt_of_cell? w _ hw190_0)).trans hw190_0)
                        have hq7_ : wr.cell? ⟨(ad185.add ((x3_1).toNat * 2)).block, (ad185.add ((x3_1).toNat * 2)).off + 1, none⟩ = some (.int .i64 ((rd_T109 l0 x3_1).f1)) := ((HB.out.cell (World.block_lt_of_cell? w _ hw190_1)).trans hw190_1)
                        have hq8_ : wr.cell? (ad185.add (((ji9)).toNat * 2)) = some (.int .i64 ((rd_T109 l0 (ji9)).f0)) := ((HB.out.cell (World.block_lt_of_cell? w _ hw191_0)).trans hw191_0)
                        have hq9_ : wr.cell? ⟨(ad185.add (((ji9)).toNat * 2)).block, (ad185.add (((ji9)).toNat * 2)).off + 1, none⟩ = some (.int .i64 ((rd_T109 l0 (ji9)).f1)) := ((HB.out.cell (World.block_lt_of_cell? w _ hw191_1)).trans hw191_1)
                        have hq10_ : wr.cell? (ad185.add ((x3_1).toNat * 2)) = some (.int .i64 ((rd_T109 l0 x3_1).f0)) := ((HB.out.cell (World.block_lt_of_cell? w _ hw192_0)).trans hw192_0)
                        have hq11_ : wr.cell? ⟨(ad185.add ((x3_1).toNat * 2)).block, (ad185.add ((x3_1).toNat * 2)).off + 1, none⟩ = some (.int .i64 ((rd_T109 l0 x3_1).f1)) := ((HB.out.cell (World.block_lt_of_cell? w _ hw192_1)).trans hw192_1)
                        go_quiet ((first | (go_at_call 80; apply Calls.quiet_of; ((with_reducible refine (spec_l1In.calls ((rd_T109 l0 x3_1).f0) 0 10000000 true _ A4.out).mono ?_); exact fun _ _ h_ => ⟨h_.1, h_.2.out⟩)) | (go_at_call 80; apply Calls.quiet_of; ((with_reducible refine (spec_l1In.calls ((rd_T109 l0 x3_1).f1) 0 127 true _ A6.out).mono ?_); exact fun _ _ h_ => ⟨h_.1, h_.2.out⟩))))
                        have nHB_ := Aside0.mk (pw_below_drewN (W := wr) ⟨HB.out.os, HB.out.tape, HB.out.output, HB.out.size, HB.out.block⟩ nq)
                        have nhx185_0_ : (wr.drewN nq).cell? _ = _ := hx185_0
                        have nhx185_1_ : (wr.drewN nq).cell? _ = _ := hx185_1
                        have nhx187_0_ : (wr.drewN nq).cell? _ = _ := hx187_0
                        have nhx187_1_ : (wr.drewN nq).cell? _ = _ := hx187_1
                        have nhx189_0_ : (wr.drewN nq).cell? _ = _ := hx189_0
                        have nhx189_1_ : (wr.drewN nq).cell? _ = _ := hx189_1
                        have nhx190_0_ : (wr.drewN nq).cell? _ = _ := hx190_0
                        have nhx190_1_ : (wr.drewN nq).cell? _ = _ := hx190_1
                        have nhx191_0_ : (wr.drewN nq).cell? _ = _ := hx191_0
                        have nhx191_1_ : (wr.drewN nq).cell? _ = _ := hx191_1
                        have nhx192_0_ : (wr.drewN nq).cell? _ = _ := hx192_0
                        have nhx192_1_ : (wr.drewN nq).cell? _ = _ := hx192_1
                        clear HB hx185_0 hx185_1 hx187_0 hx187_1 hx189_0 hx189_1 hx190_0 hx190_1 hx191_0 hx191_1 hx192_0 hx192_1 hq0_ hq1_ hq2_ hq3_ hq4_ hq5_ hq6_ hq7_ hq8_ hq9_ hq10_ hq11_
                        have HB := nHB_
                        have hx185_0 := nhx185_0_
                        have hx185_1 := nhx185_1_
                        have hx187_0 := nhx187_0_
                        have hx187_1 := nhx187_1_
                        have hx189_0 := nhx189_0_
                        have hx189_1 := nhx189_1_
                        have hx190_0 := nhx190_0_
                        have hx190_1 := nhx190_1_
                        have hx191_0 := nhx191_0_
                        have hx191_1 := nhx191_1_
                        have hx192_0 := nhx192_0_
                        have hx192_1 := nhx192_1_
                        clear nHB_ nhx185_0_ nhx185_1_ nhx187_0_ nhx187_1_ nhx189_0_ nhx189_1_ nhx190_0_ nhx190_1_ nhx191_0_ nhx191_1_ nhx192_0_ nhx192_1_
                        generalize wr.drewN nq = w18 at HB hx185_0 hx185_1 hx187_0 hx187_1 hx189_0 hx189_1 hx190_0 hx190_1 hx191_0 hx191_1 hx192_0 hx192_1 ⊢
                        try go_wp2
                        go_roundg k1
                        case measure => have := HK1.out; omega
                        case rel => exact ⟨(wrap64 (x3_1 + 1)), (by first | rfl | (simp; done) | (simp [*]; done)), H', ⟨by have := HK1.out; omega⟩, ⟨by repeat (first | (with_reducible first | exact HB.out | apply below_alloc | apply pw_below_drewN | apply below_drew1) | exact HB.out)⟩⟩
                  · rw [if_neg c11] at H
                    exact absurd H (by simp)
                · rw [if_neg c10] at H
                  exact absurd H (by simp)
              · rw [if_neg c8] at H
                have c8b0 : decide (0 < x3_1) = false := decide_eq_false c8
                clear c8
                have H' := Aside0.mk H
                clear H
                try go_wp2
                have n0_ := Aside0.mk (below_drew1 HB.out)
                clear HB
                have HB := n0_
                clear n0_
                have p185 : 0 ≤ (x3_1 : Int) := of_decide_eq_true (by first | (with_reducible assumption) | assumption)
                have q185 : x3_1 < (l0.length : Int) := of_decide_eq_true (by first | (with_reducible assumption) | assumption)
                obtain ⟨ad185, e185, hx185_0, hx185_1⟩ := at_T109 HR0.out x3_1 p185 q185
                have hw185_1 := hx185_1
                have hw185_0 := hx185_0
                cases e185
                replace hx185_0 := (HB.out.cell (World.block_lt_of_cell? w _ hx185_0)).trans hx185_0
                replace hx185_1 := (HB.out.cell (World.block_lt_of_cell? w _ hx185_1)).trans hx185_1
                replace p185 := eq_true p185
                replace q185 := eq_true q185
                have p187 : 0 ≤ (x3_1 : Int) := of_decide_eq_true (by first | (with_reducible assumption) | assumption)
                have q187 : x3_1 < (l0.length : Int) := of_decide_eq_true (by first | (with_reducible assumption) | assumption)
                obtain ⟨ad187, e187, hx187_0, hx187_1⟩ := at_T109 HR0.out x3_1 p187 q187
                have hw187_1 := hx187_1
                have hw187_0 := hx187_0
                obtain rfl : ad185 = ad187 := (by injection e187)
                replace hx187_0 := (HB.out.cell (World.block_lt_of_cell? w _ hx187_0)).trans hx187_0
                replace hx187_1 := (HB.out.cell (World.block_lt_of_cell? w _ hx187_1)).trans hx187_1
                replace p187 := eq_true p187
                replace q187 := eq_true q187
                have hq0_ : wr.cell? (ad185.add ((x3_1).toNat * 2)) = some (.int .i64 ((rd_T109 l0 x3_1).f0)) := ((HB.out.cell (World.block_lt_of_cell? w _ hw185_0)).trans hw185_0)
                have hq1_ : wr.cell? ⟨(ad185.add ((x3_1).toNat * 2)).block, (ad185.add ((x3_1).toNat * 2)).off + 1, none⟩ = some (.int .i64 ((rd_T109 l0 x3_1).f1)) := ((HB.out.cell (World.block_lt_of_cell? w _ hw185_1)).trans hw185_1)
                have hq2_ : wr.cell? (ad185.add ((x3_1).toNat * 2)) = some (.int .i64 ((rd_T109 l0 x3_1).f0)) := ((HB.out.cell (World.block_lt_of_cell? w _ hw187_0)).trans hw187_0)
                have hq3_ : wr.cell? ⟨(ad185.add ((x3_1).toNat * 2)).block, (ad185.add ((x3_1).toNat * 2)).off + 1, none⟩ = some (.int .i64 ((rd_T109 l0 x3_1).f1)) := ((HB.out.cell (World.block_lt_of_cell? w _ hw187_1)).trans hw187_1)
                go_quiet ((first | (go_at_call 80; apply Calls.quiet_of; ((with_reducible refine (spec_l1In.calls ((rd_T109 l0 x3_1).f0) 0 10000000 true _ A4.out).mono ?_); exact fun _ _ h_ => ⟨h_.1, h_.2.out⟩)) | (go_at_call 80; apply Calls.quiet_of; ((with_reducible refine (spec_l1In.calls ((rd_T109 l0 x3_1).f1) 0 127 true _ A6.out).mono ?_); exact fun _ _ h_ => ⟨h_.1, h_.2.out⟩))))
                have nHB_ := Aside0.mk (pw_below_drewN (W := wr) ⟨HB.out.os, HB.out.tape, HB.out.output, HB.out.size, HB.out.block⟩ nq)
                have nhx185_0_ : (wr.drewN nq).cell? _ = _ := hx185_0
                have nhx185_1_ : (wr.drewN nq).cell? _ = _ := hx185_1
                have nhx187_0_ : (wr.drewN nq).cell? _ = _ := hx187_0
                have nhx187_1_ : (wr.drewN nq).cell? _ = _ := hx187_1
                clear HB hx185_0 hx185_1 hx187_0 hx187_1 hq0_ hq1_ hq2_ hq3_
                have HB := nHB_
                have hx185_0 := nhx185_0_
                have hx185_1 := nhx185_1_
                have hx187_0 := nhx187_0_
                have hx187_1 := nhx187_1_
                clear nHB_ nhx185_0_ nhx185_1_ nhx187_0_ nhx187_1_
                generalize wr.drewN nq = w19 at HB hx185_0 hx185_1 hx187_0 hx187_1 ⊢
                try go_wp2
                go_roundg k1
                case measure => have := HK1.out; omega
                case rel => exact ⟨(wrap64 (x3_1 + 1)), (by first | rfl | (simp; done) | (simp [*]; done)), H', ⟨by have := HK1.out; omega⟩, ⟨by repeat (first | (with_reducible first | exact HB.out | apply below_alloc | apply pw_below_drewN | apply below_drew1) | exact HB.out)⟩⟩
            · replace c7 := Bool.eq_false_iff.mpr c7
              subst c7
              have H1 : (some false) = some r := by rw [if_neg (show ¬ (false = true) by decide)] at H; exact H
              clear H
              have H := H1
              clear H1
              obtain rfl := Option.some.inj H
              try go_wp2
              have n0_ := Aside0.mk (below_drew1 HB.out)
              clear HB
              have HB := n0_
              clear n0_
              have p185 : 0 ≤ (x3_1 : Int) := of_decide_eq_true (by first | (with_reducible assumption) | assumption)
              have q185 : x3_1 < (l0.length : Int) := of_decide_eq_true (by first | (with_reducible assumption) | assumption)
              obtain ⟨ad185, e185, hx185_0, hx185_1⟩ := at_T109 HR0.out x3_1 p185 q185
              have hw185_1 := hx185_1
              have hw185_0 := hx185_0
              cases e185
              replace hx185_0 := (HB.out.cell (World.block_lt_of_cell? w _ hx185_0)).trans hx185_0
              replace hx185_1 := (HB.out.cell (World.block_lt_of_cell? w _ hx185_1)).trans hx185_1
              replace p185 := eq_true p185
              replace q185 := eq_true q185
              have p187 : 0 ≤ (x3_1 : Int) := of_decide_eq_true (by first | (with_reducible assumption) | assumption)
              have q187 : x3_1 < (l0.length : Int) := of_decide_eq_true (by first | (with_reducible assumption) | assumption)
              obtain ⟨ad187, e187, hx187_0, hx187_1⟩ := at_T109 HR0.out x3_1 p187 q187
              have hw187_1 := hx187_1
              have hw187_0 := hx187_0
              obtain rfl : ad185 = ad187 := (by injection e187)
              replace hx187_0 := (HB.out.cell (World.block_lt_of_cell? w _ hx187_0)).trans hx187_0
              replace hx187_1 := (HB.out.cell (World.block_lt_of_cell? w _ hx187_1)).trans hx187_1
              replace p187 := eq_true p187
              replace q187 := eq_true q187
              have hq0_ : wr.cell? (ad185.add ((x3_1).toNat * 2)) = some (.int .i64 ((rd_T109 l0 x3_1).f0)) := ((HB.out.cell (World.block_lt_of_cell? w _ hw185_0)).trans hw185_0)
              have hq1_ : wr.cell? ⟨(ad185.add ((x3_1).toNat * 2)).block, (ad185.add ((x3_1).toNat * 2)).off + 1, none⟩ = some (.int .i64 ((rd_T109 l0 x3_1).f1)) := ((HB.out.cell (World.block_lt_of_cell? w _ hw185_1)).trans hw185_1)
              have hq2_ : wr.cell? (ad185.add ((x3_1).toNat * 2)) = some (.int .i64 ((rd_T109 l0 x3_1).f0)) := ((HB.out.cell (World.block_lt_of_cell? w _ hw187_0)).trans hw187_0)
              have hq3_ : wr.cell? ⟨(ad185.add ((x3_1).toNat * 2)).block, (ad185.add ((x3_1).toNat * 2)).off + 1, none⟩ = some (.int .i64 ((rd_T109 l0 x3_1).f1)) := ((HB.out.cell (World.block_lt_of_cell? w _ hw187_1)).trans hw187_1)
              go_quiet ((first | (go_at_call 80; apply Calls.quiet_of; ((with_reducible refine (spec_l1In.calls ((rd_T109 l0 x3_1).f0) 0 10000000 true _ A4.out).mono ?_); exact fun _ _ h_ => ⟨h_.1, h_.2.out⟩)) | (go_at_call 80; apply Calls.quiet_of; ((with_reducible refine (spec_l1In.calls ((rd_T109 l0 x3_1).f1) 0 127 false _ A6.out).mono ?_); exact fun _ _ h_ => ⟨h_.1, h_.2.out⟩))))
              have nHB_ := Aside0.mk (pw_below_drewN (W := wr) ⟨HB.out.os, HB.out.tape, HB.out.output, HB.out.size, HB.out.block⟩ nq)
              have nhx185_0_ : (wr.drewN nq).cell? _ = _ := hx185_0
              have nhx185_1_ : (wr.drewN nq).cell? _ = _ := hx185_1
              have nhx187_0_ : (wr.drewN nq).cell? _ = _ := hx187_0
              have nhx187_1_ : (wr.drewN nq).cell? _ = _ := hx187_1
              clear HB hx185_0 hx185_1 hx187_0 hx187_1 hq0_ hq1_ hq2_ hq3_
              have HB := nHB_
              have hx185_0 := nhx185_0_
              have hx185_1 := nhx185_1_
              have hx187_0 := nhx187_0_
              have hx187_1 := nhx187_1_
              clear nHB_ nhx185_0_ nhx185_1_ nhx187_0_ nhx187_1_
              generalize wr.drewN nq = w20 at HB hx185_0 hx185_1 hx187_0 hx187_1 ⊢
              try go_wp2
              go_ret
              exact ⟨by first | rfl | (simp [errW_none, errW_some] <;> rfl) | (simp [*, errW_none, errW_some] <;> rfl), by repeat (first | (with_reducible first | exact HB.out | apply below_alloc | apply pw_below_drewN | apply below_drew1) | exact HB.out)⟩
          · replace c5 := Bool.eq_false_iff.mpr c5
            subst c5
            have H1 : (some false) = some r := by rw [if_neg (show ¬ (false = true) by decide)] at H; exact H
            clear H
            have H := H1
            clear H1
            obtain rfl := Option.some.inj H
            try go_wp2
            have n0_ := Aside0.mk (below_drew1 HB.out)
            clear HB
            have HB := n0_
            clear n0_
            have p185 : 0 ≤ (x3_1 : Int) := of_decide_eq_true (by first | (with_reducible assumption) | assumption)
            have q185 : x3_1 < (l0.length : Int) := of_decide_eq_true (by first | (with_reducible assumption) | assumption)
            obtain ⟨ad185, e185, hx185_0, hx185_1⟩ := at_T109 HR0.out x3_1 p185 q185
            have hw185_1 := hx185_1
            have hw185_0 := hx185_0
            cases e185
            replace hx185_0 := (HB.out.cell (World.block_lt_of_cell? w _ hx185_0)).trans hx185_0
            replace hx185_1 := (HB.out.cell (World.block_lt_of_cell? w _ hx185_1)).trans hx185_1
            replace p185 := eq_true p185
            replace q185 := eq_true q185
            have hq0_ : wr.cell? (ad185.add ((x3_1).toNat * 2)) = some (.int .i64 ((rd_T109 l0 x3_1).f0)) := ((HB.out.cell (World.block_lt_of_cell? w _ hw185_0)).trans hw185_0)
            have hq1_ : wr.cell? ⟨(ad185.add ((x3_1).toNat * 2)).block, (ad185.add ((x3_1).toNat * 2)).off + 1, none⟩ = some (.int .i64 ((rd_T109 l0 x3_1).f1)) := ((HB.out.cell (World.block_lt_of_cell? w _ hw185_1)).trans hw185_1)
            go_quiet ((first | (go_at_call 80; apply Calls.quiet_of; ((with_reducible refine (spec_l1In.calls ((rd_T109 l0 x3_1).f0) 0 10000000 false _ A4.out).mono ?_); exact fun _ _ h_ => ⟨h_.1, h_.2.out⟩))))
            have nHB_ := Aside0.mk (pw_below_drewN (W := wr) ⟨HB.out.os, HB.out.tape, HB.out.output, HB.out.size, HB.out.block⟩ nq)
            have nhx185_0_ : (wr.drewN nq).cell? _ = _ := hx185_0
            have nhx185_1_ : (wr.drewN nq).cell? _ = _ := hx185_1
            clear HB hx185_0 hx185_1 hq0_ hq1_
            have HB := nHB_
            have hx185_0 := nhx185_0_
            have hx185_1 := nhx185_1_
            clear nHB_ nhx185_0_ nhx185_1_
            generalize wr.drewN nq = w21 at HB hx185_0 hx185_1 ⊢
            try go_wp2
            go_ret
            exact ⟨by first | rfl | (simp [errW_none, errW_some] <;> rfl) | (simp [*, errW_none, errW_some] <;> rfl), by repeat (first | (with_reducible first | exact HB.out | apply below_alloc | apply pw_below_drewN | apply below_drew1) | exact HB.out)⟩
        · rw [if_neg c3] at H
          exact absurd H (by simp)
      · rw [if_neg c2] at H
        have c2b0 : decide (x3_1 < (l0.length : Int)) = false := decide_eq_false c2
        clear c2
        obtain rfl := Option.some.inj H
        go_wp2
        go_ret
        exact ⟨by first | rfl | (simp [errW_none, errW_some] <;> rfl) | (simp [*, errW_none, errW_some] <;> rfl), by repeat (first | (with_reducible first | exact HB.out | apply below_alloc | apply pw_below_drewN | apply below_drew1) | exact HB.out)⟩

end Go.Proofs.Ytiophiipmgpaeaa.F

-- Written for this claim by the kit's print.py out of the translation, called by wip/tools/fprint.py. Lean checks it.
namespace Go.Proofs.Ytiophiipmgpaeaa.F
open Go.RowKit Go.Proofs.YtiophiipmgpaeaaW.PrintWords Go.Proofs.YtiophiipmgpaeaaW.PrintLast Go.Proofs.YtiophiipmgpaeaaW.PrintMore
attribute [local go_sem] max2_int min2_int max_two min_two max_three min_three max_four min_four   -- for this text's walks alone
set_option linter.unusedVariables false
set_option linter.unusedSimpArgs false

/-! ### impl_IsPerformance: function 86 -/
def impl_IsPerformance.l0 : Nat → List (S109) → List (S109) → Int → Int → Option (Bool)
  | 0, _, _, _, _ => none
  | k + 1, x0, x5, x6, x7 => if x7 < x6 then (if 0 ≤ x7 then (if x7 < (x5.length : Int) then ((impl_InRange.f ((rd_T109 x5 x7).f0) 0 10000000).bind fun t216 => (if t216 = true then ((impl_InRange.f ((rd_T109 x5 x7).f1) 0 127).bind fun t217 => (if t217 = true then (if x7 > 0 then (if 0 ≤ (wrap64 (x7 - 1)) then (if (wrap64 (x7 - 1)) < (x0.length : Int) then (if ((rd_T109 x0 (wrap64 (x7 - 1))).f0) > ((rd_T109 x5 x7).f0) then (some false) else (if ((rd_T109 x0 (wrap64 (x7 - 1))).f0) = ((rd_T109 x5 x7).f0) then (if ((rd_T109 x0 (wrap64 (x7 - 1))).f1) > ((rd_T109 x5 x7).f1) then (some false) else (impl_IsPerformance.l0 k x0 x5 x6 (wrap64 (x7 + 1)))) else (impl_IsPerformance.l0 k x0 x5 x6 (wrap64 (x7 + 1))))) else (none)) else (none)) else (impl_IsPerformance.l0 k x0 x5 x6 (wrap64 (x7 + 1)))) else (some false))) else (some false))) else (none)) else (none)) else (some (decide ((x0.length : Int) ≤ 60)))
def impl_IsPerformance.f (k : Nat) (l0 : List (S109)) : Option (Bool) := impl_IsPerformance.l0 k l0 l0 (l0.length : Int) 0
theorem impl_IsPerformance.mono_l : ∀ k, (∀ y0 y1 y2 y3, LeO (impl_IsPerformance.l0 k y0 y1 y2 y3) (impl_IsPerformance.l0 (k + 1) y0 y1 y2 y3))
  | 0 => fun _ _ _ _ r h => by simp [impl_IsPerformance.l0] at h
  | k + 1 => by
    have ih0 := impl_IsPerformance.mono_l k
    · intro y0 y1 y2 y3
      unfold impl_IsPerformance.l0
      repeat' first
      | (with_reducible exact ih0 _ _ _ _)
      | (with_reducible exact LeO.refl _)
      | (with_reducible exact LeO.none _)
      | (with_reducible refine LeO.ite ?_ ?_)
      | (with_reducible refine LeO.bind ?_ (fun _ => ?_))
      | exact ih0 _ _ _ _
      | exact LeO.none _
      | refine LeO.ite ?_ ?_
      | refine LeO.bind ?_ (fun _ => ?_)
theorem impl_IsPerformance.mono : ∀ a0 k, LeO (impl_IsPerformance.f k a0) (impl_IsPerformance.f (k + 1) a0) := by
  intro a0 k
  have ih0 := impl_IsPerformance.mono_l k
  unfold impl_IsPerformance.f
  repeat' first
      | (with_reducible exact ih0 _ _ _ _)
      | (with_reducible exact LeO.refl _)
      | (with_reducible exact LeO.none _)
      | (with_reducible refine LeO.ite ?_ ?_)
      | (with_reducible refine LeO.bind ?_ (fun _ => ?_))
      | exact ih0 _ _ _ _
      | exact LeO.none _
      | refine LeO.ite ?_ ?_
      | refine LeO.bind ?_ (fun _ => ?_)
def impl_IsPerformance.T4 : Bool × List (List Nat × List Nat) := (true, [([], []), ([0], [0]), ([1], [1]), ([2], [2]), ([3, 2], [3]), ([4], [4]), ([5, 4], [4, 5]), ([6, 4, 4], [4, 6]), ([7, 4], [4, 7]), ([4, 8], [4, 8]), ([9, 7], [9]), ([10], [10]), ([11, 10], [10, 11]), ([12, 10, 10], [10, 12]), ([13], [13]), ([13], [13]), ([15, 13], [13, 15]), ([14, 16, 13], [13, 14, 16]), ([17, 13], [13, 17]), ([18, 13], [13, 18]), ([13], [13]), ([20, 13], [13, 20]), ([19, 21, 13], [13, 19, 21]), ([22, 13, 13], [13, 22]), ([23], [23]), ([23], [23]), ([25, 23], [23, 25]), ([24, 26, 23], [23, 24, 26]), ([27, 23], [23, 27]), ([28, 23], [23, 28]), ([23], [23]), ([30, 23], [23, 30]), ([29, 31, 23], [23, 29, 31]), ([32, 23, 23], [23, 32]), ([33], [33]), ([33], [33]), ([35, 33], [33, 35]), ([34, 36, 33], [33, 34, 36]), ([37, 33], [33, 37]), ([38, 33], [33, 38]), ([33], [33]), ([40, 33], [33, 40]), ([39, 41, 33], [33, 39, 41]), ([33, 42, 23], [23, 33, 42]), ([23, 43, 13], [13, 23, 43]), ([13, 44, 10], [10, 13, 44]), ([10, 45], [10, 45])])
def impl_IsPerformance.B4 : List Nat := [0, 1, 3, 7, 15, 31, 63, 127, 255, 511, 1023, 2047, 4095, 8191, 16383, 16383, 49151, 131071, 262143, 524287, 16383, 1064959, 4194303, 8388607, 16777215, 16777215, 50331647, 134217727, 268435455, 536870911, 16777215, 1090519039, 4294967295, 8589934591, 17179869183, 17179869183, 51539607551, 137438953471, 274877906943, 549755813887, 17179869183, 1116691496959, 4398046511103, 8796093022207, 17592186044415, 35184372088831, 70368744177663]
theorem impl_IsPerformance.tab4 : rtab .any (opsOf Try.f86 4) = impl_IsPerformance.T4 := by kernel_rfl
theorem impl_IsPerformance.bits4 : waitsOk impl_IsPerformance.T4.2 impl_IsPerformance.B4 = true := by kernel_rfl
set_option maxHeartbeats 8000000 in
set_option maxRecDepth 100000 in
theorem impl_IsPerformance.calls (k : Nat) (A0 : Option Addr) (c0 : Nat) (l0 : List (S109)) (r : Bool) (w : World) (hr0 : Kd.C k109 w A0 l0.length l0) (hc0 : l0.length ≤ c0) (h : impl_IsPerformance.f k l0 = some r) :
    Calls Try.prog 86 #[.slice A0 l0.length c0] w fun e w' => e = .returned (.bool r) ∧ Below w.heap.size w w' := by
  have hu109 := Try.underlying109
  have HR0 := Aside0.mk hr0
  have HC0 := Aside0.mk hc0
  clear hr0 hc0
  have HB := Aside0.mk (Below.refl w.heap.size w)
  have H : (impl_IsPerformance.l0 k l0 l0 (l0.length : Int) 0) = some r := h
  clear h
  have H' := Aside0.mk H
  clear H
  go_enter Try.func86, Try.ntmps86
  go_wp2
  go_loopg [7] k (fun kq v7 w' => ∃ (x7_1 : Int), v7 = .int .i64 x7_1 ∧ Aside0 (impl_IsPerformance.l0 kq l0 l0 (l0.length : Int) x7_1 = some r) ∧ Aside0 (kq ≤ k) ∧ Aside0 (Below w.heap.size w w'))
  case atStart => exact ⟨(0), (by first | rfl | (simp; done) | (simp [*]; done)), H', ⟨Nat.le_refl _⟩, ⟨by repeat (first | (with_reducible first | exact HB.out | apply below_alloc | apply pw_below_drewN | apply below_drew1) | exact HB.out)⟩⟩
  case round =>
    clear H'
    obtain ⟨x7_1, rfl, HA, HK1, HB⟩ := hrel
    cases gk with
    | zero => exact absurd HA.out (by simp [impl_IsPerformance.l0])
    | succ k1 =>
      have H := HA.out
      clear HA
      simp only [impl_IsPerformance.l0] at H
      by_cases c2 : x7_1 < (l0.length : Int)
      · rw [if_pos c2] at H
        have c2b0 : decide (x7_1 < (l0.length : Int)) = true := decide_eq_true c2
        clear c2
        by_cases c3 : 0 ≤ x7_1
        · rw [if_pos c3] at H
          have c3b0 : decide (0 ≤ x7_1) = true := decide_eq_true c3
          clear c3
          by_cases c4 : x7_1 < (l0.length : Int)
          · rw [if_pos c4] at H
            have c4b0 : decide (x7_1 < (l0.length : Int)) = true := decide_eq_true c4
            clear c4
            replace H := Option.bind_eq_some_iff.mp H
            obtain ⟨t216, A50, H⟩ := H
            replace H : (if t216 = true then ((impl_InRange.f ((rd_T109 l0 x7_1).f1) 0 127).bind fun t217 => (if t217 = true then (if x7_1 > 0 then (if 0 ≤ (wrap64 (x7_1 - 1)) then (if (wrap64 (x7_1 - 1)) < (l0.length : Int) then (if ((rd_T109 l0 (wrap64 (x7_1 - 1))).f0) > ((rd_T109 l0 x7_1).f0) then (some false) else (if ((rd_T109 l0 (wrap64 (x7_1 - 1))).f0) = ((rd_T109 l0 x7_1).f0) then (if ((rd_T109 l0 (wrap64 (x7_1 - 1))).f1) > ((rd_T109 l0 x7_1).f1) then (some false) else (impl_IsPerformance.l0 k1 l0 l0 (l0.length : Int) (wrap64 (x7_1 + 1)))) else (impl_IsPerformance.l0 k1 l0 l0 (l0.length : Int) (wrap64 (x7_1 + 1))))) else (none)) else (none)) else (impl_IsPerformance.l0 k1 l0 l0 (l0.length : Int) (wrap64 (x7_1 + 1)))) else (some false))) else (some false)) = some r := H
            have A5 := Aside0.mk A50
            clear A50
            by_cases c6 : t216 = true
            · subst c6
              have H1 : ((impl_InRange.f ((rd_T109 l0 x7_1).f1) 0 127).bind fun t217 => (if t217 = true then (if x7_1 > 0 then (if 0 ≤ (wrap64 (x7_1 - 1)) then (if (wrap64 (x7_1 - 1)) < (l0.length : Int) then (if ((rd_T109 l0 (wrap64 (x7_1 - 1))).f0) > ((rd_T109 l0 x7_1).f0) then (some false) else (if ((rd_T109 l0 (wrap64 (x7_1 - 1))).f0) = ((rd_T109 l0 x7_1).f0) then (if ((rd_T109 l0 (wrap64 (x7_1 - 1))).f1) > ((rd_T109 l0 x7_1).f1) then (some false) else (impl_IsPerformance.l0 k1 l0 l0 (l0.length : Int) (wrap64 (x7_1 + 1)))) else (impl_IsPerformance.l0 k1 l0 l0 (l0.length : Int) (wrap64 (x7_1 + 1))))) else (none)) else (none)) else (impl_IsPerformance.l0 k1 l0 l0 (l0.length : Int) (wrap64 (x7_1 + 1)))) else (some false))) = some r := by rw [if_pos rfl] at H; exact H
              clear H
              have H := H1
              clear H1
              replace H := Option.bind_eq_some_iff.mp H
              obtain ⟨t217, A70, H⟩ := H
              replace H : (if t217 = true then (if x7_1 > 0 then (if 0 ≤ (wrap64 (x7_1 - 1)) then (if (wrap64 (x7_1 - 1)) < (l0.length : Int) then (if ((rd_T109 l0 (wrap64 (x7_1 - 1))).f0) > ((rd_T109 l0 x7_1).f0) then (some false) else (if ((rd_T109 l0 (wrap64 (x7_1 - 1))).f0) = ((rd_T109 l0 x7_1).f0) then (if ((rd_T109 l0 (wrap64 (x7_1 - 1))).f1) > ((rd_T109 l0 x7_1).f1) then (some false) else (impl_IsPerformance.l0 k1 l0 l0 (l0.length : Int) (wrap64 (x7_1 + 1)))) else (impl_IsPerformance.l0 k1 l0 l0 (l0.length : Int) (wrap64 (x7_1 + 1))))) else (none)) else (none)) else (impl_IsPerformance.l0 k1 l0 l0 (l0.length : Int) (wrap64 (x7_1 + 1)))) else (some false)) = some r := H
              have A7 := Aside0.mk A70
              clear A70
              by_cases c8 : t217 = true
              · subst c8
                have H1 : (if x7_1 > 0 then (if 0 ≤ (wrap64 (x7_1 - 1)) then (if (wrap64 (x7_1 - 1)) < (l0.length : Int) then (if ((rd_T109 l0 (wrap64 (x7_1 - 1))).f0) > ((rd_T109 l0 x7_1).f0) then (some false) else (if ((rd_T109 l0 (wrap64 (x7_1 - 1))).f0) = ((rd_T109 l0 x7_1).f0) then (if ((rd_T109 l0 (wrap64 (x7_1 - 1))).f1) > ((rd_T109 l0 x7_1).f1) then (some false) else (impl_IsPerformance.l0 k1 l0 l0 (l0.length : Int) (wrap64 (x7_1 + 1)))) else (impl_IsPerformance.l0 k1 l0 l0 (l0.length : Int) (wrap64 (x7_1 + 1))))) else (none)) else (none)) else (impl_IsPerformance.l0 k1 l0 l0 (l0.length : Int) (wrap64 (x7_1 + 1)))) = some r := by rw [if_pos rfl] at H; exact H
                clear H
                have H := H1
                clear H1
                by_cases c9 : x7_1 > 0
                · rw [if_pos c9] at H
                  have c9b0 : decide (0 < x7_1) = true := decide_eq_true c9
                  clear c9
                  obtain ⟨ji10, hji10⟩ : ∃ j_ : Int, (wrap64 (x7_1 - 1)) = j_ := ⟨_, rfl⟩
                  replace H : (if 0 ≤ (ji10) then (if (ji10) < (l0.length : Int) then (if ((rd_T109 l0 (ji10)).f0) > ((rd_T109 l0 x7_1).f0) then (some false) else (if ((rd_T109 l0 (ji10)).f0) = ((rd_T109 l0 x7_1).f0) then (if ((rd_T109 l0 (ji10)).f1) > ((rd_T109 l0 x7_1).f1) then (some false) else (impl_IsPerformance.l0 k1 l0 l0 (l0.length : Int) (wrap64 (x7_1 + 1)))) else (impl_IsPerformance.l0 k1 l0 l0 (l0.length : Int) (wrap64 (x7_1 + 1))))) else (none)) else (none)) = some r := by first | (rw [hji10] at H; exact H) | (simp only [hji10] at H ⊢; exact H)
                  (try rw [hji10] at A5)
                  (try rw [hji10] at A7)
                  have hji10w : (IntKind.i64.wrap (x7_1 - 1)) = ji10 := (i64_w _).trans hji10
                  by_cases c11 : 0 ≤ (ji10)
                  · rw [if_pos c11] at H
                    have c11b0 : decide (0 ≤ (ji10)) = true := decide_eq_true c11
                    clear c11
                    by_cases c12 : (ji10) < (l0.length : Int)
                    · rw [if_pos c12] at H
                      have c12b0 : decide ((ji10) < (l0.length : Int)) = true := decide_eq_true c12
                      clear c12
                      by_cases c13 : ((rd_T109 l0 (ji10)).f0) > ((rd_T109 l0 x7_1).f0)
                      · rw [if_pos c13] at H
                        have c13b0 : decide (((rd_T109 l0 x7_1).f0) < ((rd_T109 l0 (ji10)).f0)) = true := decide_eq_true c13
                        clear c13
                        obtain rfl := Option.some.inj H
                        have p214 : 0 ≤ (x7_1 : Int) := of_decide_eq_true (by first | (with_reducible assumption) | assumption)
                        have q214 : x7_1 < (l0.length : Int) := of_decide_eq_true (by first | (with_reducible assumption) | assumption)
                        obtain ⟨ad214, e214, hx214_0, hx214_1⟩ := at_T109 HR0.out x7_1 p214 q214
                        cases e214
                        replace hx214_0 := (HB.out.cell (World.block_lt_of_cell? w _ hx214_0)).trans hx214_0
                        replace hx214_1 := (HB.out.cell (World.block_lt_of_cell? w _ hx214_1)).trans hx214_1
                        replace p214 := eq_true p214
                        replace q214 := eq_true q214
                        try go_wp2_with (first | ((with_reducible refine gate_dst (N := 4) rfl ?_); refine box_event ?hg (N := 4) ?hd (cs := #[.int .i64 0, .int .i64 0]) (t := 109) ?hr ?_; (case hd => rfl); (case hg => rfl); (case hr => first | (go_simp; done) | (go_simp; rfl)); intro gb215 hg w14 hbox hb; have n0_ := Aside0.mk (below_step (by repeat (first | (with_reducible first | exact HB.out | apply below_alloc | apply pw_below_drewN | apply below_drew1) | exact HB.out)) hb); have n1_ := Aside0.mk (hbox); have n2_ := Aside0.mk ((by rw [hg]; exact (below_size (by repeat (first | (with_reducible first | exact HB.out | apply below_alloc | apply pw_below_drewN | apply below_drew1) | exact HB.out))) : w.heap.size ≤ gb215)); have n3_ := Aside0.mk ((by rw [hg]; exact (below_size (by repeat (first | (with_reducible first | exact HB.out | apply below_alloc | apply pw_below_drewN | apply below_drew1) | exact HB.out))) : w.heap.size ≤ gb215)); clear HB; have HB := n0_; have BK215 := n1_; have GW215 := n2_; have GE215 := n3_; clear n0_ n1_ n2_ n3_; clear hb hbox hg; have hcz15_0 : w14.cell? ⟨gb215, 0, none⟩ = some (.int .i64 0) := (blk_cell BK215.out 0).trans rfl; have hcz15_1 : w14.cell? ⟨gb215, 1, none⟩ = some (.int .i64 0) := (blk_cell BK215.out 1).trans rfl; have hfz15_0 := blk_frozen BK215.out 0; have hfz15_1 := blk_frozen BK215.out 1))
                        have n0_ : Aside0 (((w14.setCell ⟨gb215, 0, none⟩ (.int .i64 ((rd_T109 l0 x7_1).f0))).setCell ⟨gb215, 1, none⟩ (.int .i64 ((rd_T109 l0 x7_1).f1))).heap[gb215]? = some (.cells #[.int .i64 ((rd_T109 l0 x7_1).f0), .int .i64 ((rd_T109 l0 x7_1).f1)] 109 (0, 0))) := ⟨by (with_reducible repeat (first | refine blk_drewN ?_ _ | refine blk_drew ?_ | refine blk_alloc ?_ _)); refine blk_put (cs := #[.int .i64 ((rd_T109 l0 x7_1).f0), .int .i64 0]) ?_ 1 _ rfl; (with_reducible repeat (first | refine blk_drewN ?_ _ | refine blk_drew ?_ | refine blk_alloc ?_ _)); refine blk_put (cs := #[.int .i64 0, .int .i64 0]) ?_ 0 _ rfl; (with_reducible repeat (first | refine blk_drewN ?_ _ | refine blk_drew ?_ | refine blk_alloc ?_ _)); exact BK215.out⟩
                        have n1_ : Aside0 (Below w.heap.size w ((w14.setCell ⟨gb215, 0, none⟩ (.int .i64 ((rd_T109 l0 x7_1).f0))).setCell ⟨gb215, 1, none⟩ (.int .i64 ((rd_T109 l0 x7_1).f1)))) := ⟨by repeat (first | (with_reducible first | exact HB.out | apply below_alloc | apply pw_below_drewN | apply below_drew1 | refine below_set ?_ GE215.out) | exact HB.out)⟩
                        (try clear BK215)
                        (try clear HB)
                        generalize ((w14.setCell ⟨gb215, 0, none⟩ (.int .i64 ((rd_T109 l0 x7_1).f0))).setCell ⟨gb215, 1, none⟩ (.int .i64 ((rd_T109 l0 x7_1).f1))) = w16 at n0_ n1_ ⊢
                        have BK215 := n0_
                        have HB := n1_
                        clear n0_ n1_
                        have n0_ := Aside0.mk (blk_drew BK215.out)
                        have n1_ := Aside0.mk (below_drew1 HB.out)
                        clear BK215
                        clear HB
                        have BK215 := n0_
                        have HB := n1_
                        clear n0_ n1_
                        have p218 : 0 ≤ ((ji10) : Int) := of_decide_eq_true (by first | (with_reducible assumption) | assumption)
                        have q218 : (ji10) < (l0.length : Int) := of_decide_eq_true (by first | (with_reducible assumption) | assumption)
                        obtain ⟨ad218, e218, hx218_0, hx218_1⟩ := at_T109 HR0.out (ji10) p218 q218
                        have hw218_1 := hx218_1
                        have hw218_0 := hx218_0
                        obtain rfl : ad214 = ad218 := (by injection e218)
                        replace hx218_0 := (HB.out.cell (World.block_lt_of_cell? w _ hx218_0)).trans hx218_0
                        replace hx218_1 := (HB.out.cell (World.block_lt_of_cell? w _ hx218_1)).trans hx218_1
                        replace p218 := eq_true p218
                        replace q218 := eq_true q218
                        have hq0_ : w16.cell? ⟨gb215, 0, none⟩ = some (.int .i64 ((rd_T109 l0 x7_1).f0)) := (blk_cell BK215.out 0).trans rfl
                        have hq1_ : w16.cell? ⟨gb215, 1, none⟩ = some (.int .i64 ((rd_T109 l0 x7_1).f1)) := (blk_cell BK215.out 1).trans rfl
                        have hq2_ : w16.cell? (ad214.add (((ji10)).toNat * 2)) = some (.int .i64 ((rd_T109 l0 (ji10)).f0)) := ((HB.out.cell (World.block_lt_of_cell? w _ hw218_0)).trans hw218_0)
                        have hq3_ : w16.cell? ⟨(ad214.add (((ji10)).toNat * 2)).block, (ad214.add (((ji10)).toNat * 2)).off + 1, none⟩ = some (.int .i64 ((rd_T109 l0 (ji10)).f1)) := ((HB.out.cell (World.block_lt_of_cell? w _ hw218_1)).trans hw218_1)
                        go_quiet ((first | (go_at_call 82; apply Calls.quiet_of; ((with_reducible refine (impl_InRange.calls ((rd_T109 l0 x7_1).f0) 0 10000000 true _ A5.out).mono ?_); exact fun _ _ h_ => ⟨h_.1, h_.2.out⟩)) | (go_at_call 82; apply Calls.quiet_of; ((with_reducible refine (impl_InRange.calls ((rd_T109 l0 x7_1).f1) 0 127 true _ A7.out).mono ?_); exact fun _ _ h_ => ⟨h_.1, h_.2.out⟩))))
                        have nBK215_ := Aside0.mk (blk_drewN (w := w16) BK215.out nq)
                        have nHB_ := Aside0.mk (pw_below_drewN (W := w16) ⟨HB.out.os, HB.out.tape, HB.out.output, HB.out.size, HB.out.block⟩ nq)
                        have nhx218_0_ : (w16.drewN nq).cell? _ = _ := hx218_0
                        have nhx218_1_ : (w16.drewN nq).cell? _ = _ := hx218_1
                        clear BK215 HB hx218_0 hx218_1 hq0_ hq1_ hq2_ hq3_
                        have BK215 := nBK215_
                        have HB := nHB_
                        have hx218_0 := nhx218_0_
                        have hx218_1 := nhx218_1_
                        clear nBK215_ nHB_ nhx218_0_ nhx218_1_
                        generalize w16.drewN nq = w17 at BK215 HB hx218_0 hx218_1 ⊢
                        try go_wp2
                        go_ret
                        exact ⟨by first | rfl | (simp [errW_none, errW_some] <;> rfl) | (simp only [← hji10]; first | rfl | (simp [errW_none, errW_some] <;> rfl)) | (simp [*, errW_none, errW_some] <;> rfl), by repeat (first | (with_reducible first | exact HB.out | apply below_alloc | apply pw_below_drewN | apply below_drew1 | refine below_set ?_ GE215.out) | exact HB.out)⟩
                      · rw [if_neg c13] at H
                        have c13b0 : decide (((rd_T109 l0 x7_1).f0) < ((rd_T109 l0 (ji10)).f0)) = false := decide_eq_false c13
                        clear c13
                        by_cases c18 : ((rd_T109 l0 (ji10)).f0) = ((rd_T109 l0 x7_1).f0)
                        · rw [if_pos c18] at H
                          have c18b0 : (((rd_T109 l0 (ji10)).f0) == ((rd_T109 l0 x7_1).f0)) = true := beq_iff_eq.mpr c18
                          have c18b1 : (((rd_T109 l0 (ji10)).f0) != ((rd_T109 l0 x7_1).f0)) = false := bne_eq_false_iff_eq.mpr c18
                          clear c18
                          by_cases c19 : ((rd_T109 l0 (ji10)).f1) > ((rd_T109 l0 x7_1).f1)
                          · rw [if_pos c19] at H
                            have c19b0 : decide (((rd_T109 l0 x7_1).f1) < ((rd_T109 l0 (ji10)).f1)) = true := decide_eq_true c19
                            clear c19
                            obtain rfl := Option.some.inj H
                            have p214 : 0 ≤ (x7_1 : Int) := of_decide_eq_true (by first | (with_reducible assumption) | assumption)
                            have q214 : x7_1 < (l0.length : Int) := of_decide_eq_true (by first | (with_reducible assumption) | assumption)
                            obtain ⟨ad214, e214, hx214_0, hx214_1⟩ := at_T109 HR0.out x7_1 p214 q214
                            cases e214
                            replace hx214_0 := (HB.out.cell (World.block_lt_of_cell? w _ hx214_0)).trans hx214_0
                            replace hx214_1 := (HB.out.cell (World.block_lt_of_cell? w _ hx214_1)).trans hx214_1
                            replace p214 := eq_true p214
                            replace q214 := eq_true q214
                            try go_wp2_with (first | ((with_reducible refine gate_dst (N := 4) rfl ?_); refine box_event ?hg (N := 4) ?hd (cs := #[.int .i64 0, .int .i64 0]) (t := 109) ?hr ?_; (case hd => rfl); (case hg => rfl); (case hr => first | (go_simp; done) | (go_simp; rfl)); intro gb215 hg w20 hbox hb; have n0_ := Aside0.mk (below_step (by repeat (first | (with_reducible first | exact HB.out | apply below_alloc | apply pw_below_drewN | apply below_drew1) | exact HB.out)) hb); have n1_ := Aside0.mk (hbox); have n2_ := Aside0.mk ((by rw [hg]; exact (below_size (by repeat (first | (with_reducible first | exact HB.out | apply below_alloc | apply pw_below_drewN | apply below_drew1) | exact HB.out))) : w.heap.size ≤ gb215)); have n3_ := Aside0.mk ((by rw [hg]; exact (below_size (by repeat (first | (with_reducible first | exact HB.out | apply below_alloc | apply pw_below_drewN | apply below_drew1) | exact HB.out))) : w.heap.size ≤ gb215)); clear HB; have HB := n0_; have BK215 := n1_; have GW215 := n2_; have GE215 := n3_; clear n0_ n1_ n2_ n3_; clear hb hbox hg; have hcz21_0 : w20.cell? ⟨gb215, 0, none⟩ = some (.int .i64 0) := (blk_cell BK215.out 0).trans rfl; have hcz21_1 : w20.cell? ⟨gb215, 1, none⟩ = some (.int .i64 0) := (blk_cell BK215.out 1).trans rfl; have hfz21_0 := blk_frozen BK215.out 0; have hfz21_1 := blk_frozen BK215.out 1))
                            have n0_ : Aside0 (((w20.setCell ⟨gb215, 0, none⟩ (.int .i64 ((rd_T109 l0 x7_1).f0))).setCell ⟨gb215, 1, none⟩ (.int .i64 ((rd_T109 l0 x7_1).f1))).heap[gb215]? = some (.cells #[.int .i64 ((rd_T109 l0 x7_1).f0), .int .i64 ((rd_T109 l0 x7_1).f1)] 109 (0, 0))) := ⟨by (with_reducible repeat (first | refine blk_drewN ?_ _ | refine blk_drew ?_ | refine blk_alloc ?_ _)); refine blk_put (cs := #[.int .i64 ((rd_T109 l0 x7_1).f0), .int .i64 0]) ?_ 1 _ rfl; (with_reducible repeat (first | refine blk_drewN ?_ _ | refine blk_drew ?_ | refine blk_alloc ?_ _)); refine blk_put (cs := #[.int .i64 0, .int .i64 0]) ?_ 0 _ rfl; (with_reducible repeat (first | refine blk_drewN ?_ _ | refine blk_drew ?_ | refine blk_alloc ?_ _)); exact BK215.out⟩
                            have n1_ : Aside0 (Below w.heap.size w ((w20.setCell ⟨gb215, 0, none⟩ (.int .i64 ((rd_T109 l0 x7_1).f0))).setCell ⟨gb215, 1, none⟩ (.int .i64 ((rd_T109 l0 x7_1).f1)))) := ⟨by repeat (first | (with_reducible first | exact HB.out | apply below_alloc | apply pw_below_drewN | apply below_drew1 | refine below_set ?_ GE215.out) | exact HB.out)⟩
                            (try clear BK215)
                            (try clear HB)
                            generalize ((w20.setCell ⟨gb215, 0, none⟩ (.int .i64 ((rd_T109 l0 x7_1).f0))).setCell ⟨gb215, 1, none⟩ (.int .i64 ((rd_T109 l0 x7_1).f1))) = w22 at n0_ n1_ ⊢
                            have BK215 := n0_
                            have HB := n1_
                            clear n0_ n1_
                            have n0_ := Aside0.mk (blk_drew BK215.out)
                            have n1_ := Aside0.mk (below_drew1 HB.out)
                            clear BK215
                            clear HB
                            have BK215 := n0_
                            have HB := n1_
                            clear n0_ n1_
                            have p218 : 0 ≤ ((ji10) : Int) := of_decide_eq_true (by first | (with_reducible assumption) | assumption)
                            have q218 : (ji10) < (l0.length : Int) := of_decide_eq_true (by first | (with_reducible assumption) | assumption)
                            obtain ⟨ad218, e218, hx218_0, hx218_1⟩ := at_T109 HR0.out (ji10) p218 q218
                            have hw218_1 := hx218_1
                            have hw218_0 := hx218_0
                            obtain rfl : ad214 = ad218 := (by injection e218)
                            replace hx218_0 := (HB.out.cell (World.block_lt_of_cell? w _ hx218_0)).trans hx218_0
                            replace hx218_1 := (HB.out.cell (World.block_lt_of_cell? w _ hx218_1)).trans hx218_1
                            replace p218 := eq_true p218
                            replace q218 := eq_true q218
                            have p219 : 0 ≤ ((ji10) : Int) := of_decide_eq_true (by first | (with_reducible assumption) | assumption)
                            have q219 : (ji10) < (l0.length : Int) := of_decide_eq_true (by first | (with_reducible assumption) | assumption)
                            obtain ⟨ad219, e219, hx219_0, hx219_1⟩ := at_T109 HR0.out (ji10) p219 q219
                            have hw219_1 := hx219_1
                            have hw219_0 := hx219_0
                            obtain rfl : ad214 = ad219 := (by injection e219)
                            replace hx219_0 := (HB.out.cell (World.block_lt_of_cell? w _ hx219_0)).trans hx219_0
                            replace hx219_1 := (HB.out.cell (World.block_lt_of_cell? w _ hx219_1)).trans hx219_1
                            replace p219 := eq_true p219
                            replace q219 := eq_true q219
                            have p220 : 0 ≤ ((ji10) : Int) := of_decide_eq_true (by first | (with_reducible assumption) | assumption)
                            have q220 : (ji10) < (l0.length : Int) := of_decide_eq_true (by first | (with_reducible assumption) | assumption)
                            obtain ⟨ad220, e220, hx220_0, hx220_1⟩ := at_T109 HR0.out (ji10) p220 q220
                            have hw220_1 := hx220_1
                            have hw220_0 := hx220_0
                            obtain rfl : ad214 = ad220 := (by injection e220)
                            replace hx220_0 := (HB.out.cell (World.block_lt_of_cell? w _ hx220_0)).trans hx220_0
                            replace hx220_1 := (HB.out.cell (World.block_lt_of_cell? w _ hx220_1)).trans hx220_1
                            replace p220 := eq_true p220
                            replace q220 := eq_true q220
                            have hq0_ : w22.cell? ⟨gb215, 0, none⟩ = some (.int .i64 ((rd_T109 l0 x7_1).f0)) := (blk_cell BK215.out 0).trans rfl
                            have hq1_ : w22.cell? ⟨gb215, 1, none⟩ = some (.int .i64 ((rd_T109 l0 x7_1).f1)) := (blk_cell BK215.out 1).trans rfl
                            have hq2_ : w22.cell? (ad214.add (((ji10)).toNat * 2)) = some (.int .i64 ((rd_T109 l0 (ji10)).f0)) := ((HB.out.cell (World.block_lt_of_cell? w _ hw218_0)).trans hw218_0)
                            have hq3_ : w22.cell? ⟨(ad214.add (((ji10)).toNat * 2)).block, (ad214.add (((ji10)).toNat * 2)).off + 1, none⟩ = some (.int .i64 ((rd_T109 l0 (ji10)).f1)) := ((HB.out.cell (World.block_lt_of_cell? w _ hw218_1)).trans hw218_1)
                            have hq4_ : w22.cell? (ad214.add (((ji10)).toNat * 2)) = some (.int .i64 ((rd_T109 l0 (ji10)).f0)) := ((HB.out.cell (World.block_lt_of_cell? w _ hw219_0)).trans hw219_0)
                            have hq5_ : w22.cell? ⟨(ad214.add (((ji10)).toNat * 2)).block, (ad214.add (((ji10)).toNat * 2)).off + 1, none⟩ = some (.int .i64 ((rd_T109 l0 (ji10)).f1)) := ((HB.out.cell (World.block_lt_of_cell? w _ hw219_1)).trans hw219_1)
                            have hq6_ : w22.cell? (ad214.add (((ji10)).toNat * 2)) = some (.int .i64 ((rd_T109 l0 (ji10)).f0)) := ((HB.out.cell (World.block_lt_of_cell? w _ hw220_0)).trans hw220_0)
                            have hq7_ : w22.cell? ⟨(ad214.add (((ji10)).toNat * 2)).block, (ad214.add (((ji10)).toNat * 2)).off + 1, none⟩ = some (.int .i64 ((rd_T109 l0 (ji10)).f1)) := ((HB.out.cell (World.block_lt_of_cell? w _ hw220_1)).trans hw220_1)
                            go_quiet ((first | (go_at_call 82; apply Calls.quiet_of; ((with_reducible refine (impl_InRange.calls ((rd_T109 l0 x7_1).f0) 0 10000000 true _ A5.out).mono ?_); exact fun _ _ h_ => ⟨h_.1, h_.2.out⟩)) | (go_at_call 82; apply Calls.quiet_of; ((with_reducible refine (impl_InRange.calls ((rd_T109 l0 x7_1).f1) 0 127 true _ A7.out).mono ?_); exact fun _ _ h_ => ⟨h_.1, h_.2.out⟩))))
                            have nBK215_ := Aside0.mk (blk_drewN (w := w22) BK215.out nq)
                            have nHB_ := Aside0.mk (pw_below_drewN (W := w22) ⟨HB.out.os, HB.out.tape, HB.out.output, HB.out.size, HB.out.block⟩ nq)
                            have nhx218_0_ : (w22.drewN nq).cell? _ = _ := hx218_0
                            have nhx218_1_ : (w22.drewN nq).cell? _ = _ := hx218_1
                            have nhx219_0_ : (w22.drewN nq).cell? _ = _ := hx219_0
                            have nhx219_1_ : (w22.drewN nq).cell? _ = _ := hx219_1
                            have nhx220_0_ : (w22.drewN nq).cell? _ = _ := hx220_0
                            have nhx220_1_ : (w22.drewN nq).cell? _ = _ := hx220_1
                            clear BK215 HB hx218_0 hx218_1 hx219_0 hx219_1 hx220_0 hx220_1 hq0_ hq1_ hq2_ hq3_ hq4_ hq5_ hq6_ hq7_
                            have BK215 := nBK215_
                            have HB := nHB_
                            have hx218_0 := nhx218_0_
                            have hx218_1 := nhx218_1_
                            have hx219_0 := nhx219_0_
                            have hx219_1 := nhx219_1_
                            have hx220_0 := nhx220_0_
                            have hx220_1 := nhx220_1_
                            clear nBK215_ nHB_ nhx218_0_ nhx218_1_ nhx219_0_ nhx219_1_ nhx220_0_ nhx220_1_
                            generalize w22.drewN nq = w23 at BK215 HB hx218_0 hx218_1 hx219_0 hx219_1 hx220_0 hx220_1 ⊢
                            try go_wp2
                            go_ret
                            exact ⟨by first | rfl | (simp [errW_none, errW_some] <;> rfl) | (simp only [← hji10]; first | rfl | (simp [errW_none, errW_some] <;> rfl)) | (simp [*, errW_none, errW_some] <;> rfl), by repeat (first | (with_reducible first | exact HB.out | apply below_alloc | apply pw_below_drewN | apply below_drew1 | refine below_set ?_ GE215.out) | exact HB.out)⟩
                          · rw [if_neg c19] at H
                            have c19b0 : decide (((rd_T109 l0 x7_1).f1) < ((rd_T109 l0 (ji10)).f1)) = false := decide_eq_false c19
                            clear c19
                            have H' := Aside0.mk H
                            clear H
                            have p214 : 0 ≤ (x7_1 : Int) := of_decide_eq_true (by first | (with_reducible assumption) | assumption)
                            have q214 : x7_1 < (l0.length : Int) := of_decide_eq_true (by first | (with_reducible assumption) | assumption)
                            obtain ⟨ad214, e214, hx214_0, hx214_1⟩ := at_T109 HR0.out x7_1 p214 q214
                            cases e214
                            replace hx214_0 := (HB.out.cell (World.block_lt_of_cell? w _ hx214_0)).trans hx214_0
                            replace hx214_1 := (HB.out.cell (World.block_lt_of_cell? w _ hx214_1)).trans hx214_1
                            replace p214 := eq_true p214
                            replace q214 := eq_true q214
                            try go_wp2_with (first | ((with_reducible refine gate_dst (N := 4) rfl ?_); refine box_event ?hg (N := 4) ?hd (cs := #[.int .i64 0, .int .i64 0]) (t := 109) ?hr ?_; (case hd => rfl); (case hg => rfl); (case hr => first | (go_simp; done) | (go_simp; rfl)); intro gb215 hg w24 hbox hb; have n0_ := Aside0.mk (below_step (by repeat (first | (with_reducible first | exact HB.out | apply below_alloc | apply pw_below_drewN | apply below_drew1) | exact HB.out)) hb); have n1_ := Aside0.mk (hbox); have n2_ := Aside0.mk ((by rw [hg]; exact (below_size (by repeat (first | (with_reducible first | exact HB.out | apply below_alloc | apply pw_below_drewN | apply below_drew1) | exact HB.out))) : w.heap.size ≤ gb215)); have n3_ := Aside0.mk ((by rw [hg]; exact (below_size (by repeat (first | (with_reducible first | exact HB.out | apply below_alloc | apply pw_below_drewN | apply below_drew1) | exact HB.out))) : w.heap.size ≤ gb215)); clear HB; have HB := n0_; have BK215 := n1_; have GW215 := n2_; have GE215 := n3_; clear n0_ n1_ n2_ n3_; clear hb hbox hg; have hcz25_0 : w24.cell? ⟨gb215, 0, none⟩ = some (.int .i64 0) := (blk_cell BK215.out 0).trans rfl; have hcz25_1 : w24.cell? ⟨gb215, 1, none⟩ = some (.int .i64 0) := (blk_cell BK215.out 1).trans rfl; have hfz25_0 := blk_frozen BK215.out 0; have hfz25_1 := blk_frozen BK215.out 1))
                            have n0_ : Aside0 (((w24.setCell ⟨gb215, 0, none⟩ (.int .i64 ((rd_T109 l0 x7_1).f0))).setCell ⟨gb215, 1, none⟩ (.int .i64 ((rd_T109 l0 x7_1).f1))).heap[gb215]? = some (.cells #[.int .i64 ((rd_T109 l0 x7_1).f0), .int .i64 ((rd_T109 l0 x7_1).f1)] 109 (0, 0))) := ⟨by (with_reducible repeat (first | refine blk_drewN ?_ _ | refine blk_drew ?_ | refine blk_alloc ?_ _)); refine blk_put (cs := #[.int .i64 ((rd_T109 l0 x7_1).f0), .int .i64 0]) ?_ 1 _ rfl; (with_reducible repeat (first | refine blk_drewN ?_ _ | refine blk_drew ?_ | refine blk_alloc ?_ _)); refine blk_put (cs := #[.int .i64 0, .int .i64 0]) ?_ 0 _ rfl; (with_reducible repeat (first | refine blk_drewN ?_ _ | refine blk_drew ?_ | refine blk_alloc ?_ _)); exact BK215.out⟩
                            have n1_ : Aside0 (Below w.heap.size w ((w24.setCell ⟨gb215, 0, none⟩ (.int .i64 ((rd_T109 l0 x7_1).f0))).setCell ⟨gb215, 1, none⟩ (.int .i64 ((rd_T109 l0 x7_1).f1)))) := ⟨by repeat (first | (with_reducible first | exact HB.out | apply below_alloc | apply pw_below_drewN | apply below_drew1 | refine below_set ?_ GE215.out) | exact HB.out)⟩
                            (try clear BK215)
                            (try clear HB)
                            generalize ((w24.setCell ⟨gb215, 0, none⟩ (.int .i64 ((rd_T109 l0 x7_1).f0))).setCell ⟨gb215, 1, none⟩ (.int .i64 ((rd_T109 l0 x7_1).f1))) = w26 at n0_ n1_ ⊢
                            have BK215 := n0_
                            have HB := n1_
                            clear n0_ n1_
                            have n0_ := Aside0.mk (blk_drew BK215.out)
                            have n1_ := Aside0.mk (below_drew1 HB.out)
                            clear BK215
                            clear HB
                            have BK215 := n0_
                            have HB := n1_
                            clear n0_ n1_
                            have p218 : 0 ≤ ((ji10) : Int) := of_decide_eq_true (by first | (with_reducible assumption) | assumption)
                            have q218 : (ji10) < (l0.length : Int) := of_decide_eq_true (by first | (with_reducible assumption) | assumption)
                            obtain ⟨ad218, e218, hx218_0, hx218_1⟩ := at_T109 HR0.out (ji10) p218 q218
                            have hw218_1 := hx218_1
                            have hw218_0 := hx218_0
                            obtain rfl : ad214 = ad218 := (by injection e218)
                            replace hx218_0 := (HB.out.cell (World.block_lt_of_cell? w _ hx218_0)).trans hx218_0
                            replace hx218_1 := (HB.out.cell (World.block_lt_of_cell? w _ hx218_1)).trans hx218_1
                            replace p218 := eq_true p218
                            replace q218 := eq_true q218
                            have p219 : 0 ≤ ((ji10) : Int) := of_decide_eq_true (by first | (with_reducible assumption) | assumption)
                            have q219 : (ji10) < (l0.length : Int) := of_decide_eq_true (by first | (with_reducible assumption) | assumption)
                            obtain ⟨ad219, e219, hx219_0, hx219_1⟩ := at_T109 HR0.out (ji10) p219 q219
                            have hw219_1 := hx219_1
                            have hw219_0 := hx219_0
                            obtain rfl : ad214 = ad219 := (by injection e219)
                            replace hx219_0 := (HB.out.cell (World.block_lt_of_cell? w _ hx219_0)).trans hx219_0
                            replace hx219_1 := (HB.out.cell (World.block_lt_of_cell? w _ hx219_1)).trans hx219_1
                            replace p219 := eq_true p219
                            replace q219 := eq_true q219
                            have p220 : 0 ≤ ((ji10) : Int) := of_decide_eq_true (by first | (with_reducible assumption) | assumption)
                            have q220 : (ji10) < (l0.length : Int) := of_decide_eq_true (by first | (with_reducible assumption) | assumption)
                            obtain ⟨ad220, e220, hx220_0, hx220_1⟩ := at_T109 HR0.out (ji10) p220 q220
                            have hw220_1 := hx220_1
                            have hw220_0 := hx220_0
                            obtain rfl : ad214 = ad220 := (by injection e220)
                            replace hx220_0 := (HB.out.cell (World.block_lt_of_cell? w _ hx220_0)).trans hx220_0
                            replace hx220_1 := (HB.out.cell (World.block_lt_of_cell? w _ hx220_1)).trans hx220_1
                            replace p220 := eq_true p220
                            replace q220 := eq_true q220
                            have hq0_ : w26.cell? ⟨gb215, 0, none⟩ = some (.int .i64 ((rd_T109 l0 x7_1).f0)) := (blk_cell BK215.out 0).trans rfl
                            have hq1_ : w26.cell? ⟨gb215, 1, none⟩ = some (.int .i64 ((rd_T109 l0 x7_1).f1)) := (blk_cell BK215.out 1).trans rfl
                            have hq2_ : w26.cell? (ad214.add (((ji10)).toNat * 2)) = some (.int .i64 ((rd_T109 l0 (ji10)).f0)) := ((HB.out.cell (World.block_lt_of_cell? w _ hw218_0)).trans hw218_0)
                            have hq3_ : w26.cell? ⟨(ad214.add (((ji10)).toNat * 2)).block, (ad214.add (((ji10)).toNat * 2)).off + 1, none⟩ = some (.int .i64 ((rd_T109 l0 (ji10)).f1)) := ((HB.out.cell (World.block_lt_of_cell? w _ hw218_1)).trans hw218_1)
                            have hq4_ : w26.cell? (ad214.add (((ji10)).toNat * 2)) = some (.int .i64 ((rd_T109 l0 (ji10)).f0)) := ((HB.out.cell (World.block_lt_of_cell? w _ hw219_0)).trans hw219_0)
                            have hq5_ : w26.cell? ⟨(ad214.add (((ji10)).toNat * 2)).block, (ad214.add (((ji10)).toNat * 2)).off + 1, none⟩ = some (.int .i64 ((rd_T109 l0 (ji10)).f1)) := ((HB.out.cell (World.block_lt_of_cell? w _ hw219_1)).trans hw219_1)
                            have hq6_ : w26.cell? (ad214.add (((ji10)).toNat * 2)) = some (.int .i64 ((rd_T109 l0 (ji10)).f0)) := ((HB.out.cell (World.block_lt_of_cell? w _ hw220_0)).trans hw220_0)
                            have hq7_ : w26.cell? ⟨(ad214.add (((ji10)).toNat * 2)).block, (ad214.add (((ji10)).toNat * 2)).off + 1, none⟩ = some (.int .i64 ((rd_T109 l0 (ji10)).f1)) := ((HB.out.cell (World.block_lt_of_cell? w _ hw220_1)).trans hw220_1)
                            go_quiet ((first | (go_at_call 82; apply Calls.quiet_of; ((with_reducible refine (impl_InRange.calls ((rd_T109 l0 x7_1).f0) 0 10000000 true _ A5.out).mono ?_); exact fun _ _ h_ => ⟨h_.1, h_.2.out⟩)) | (go_at_call 82; apply Calls.quiet_of; ((with_reducible refine (impl_InRange.calls ((rd_T109 l0 x7_1).f1) 0 127 true _ A7.out).mono ?_); exact fun _ _ h_ => ⟨h_.1, h_.2.out⟩))))
                            have nBK215_ := Aside0.mk (blk_drewN (w := w26) BK215.out nq)
                            have nHB_ := Aside0.mk (pw_below_drewN (W := w26) ⟨HB.out.os, HB.out.tape, HB.out.output, HB.out.size, HB.out.block⟩ nq)
                            have nhx218_0_ : (w26.drewN nq).cell? _ = _ := hx218_0
                            have nhx218_1_ : (w26.drewN nq).cell? _ = _ := hx218_1
                            have nhx219_0_ : (w26.drewN nq).cell? _ = _ := hx219_0
                            have nhx219_1_ : (w26.drewN nq).cell? _ = _ := hx219_1
                            have nhx220_0_ : (w26.drewN nq).cell? _ = _ := hx220_0
                            have nhx220_1_ : (w26.drewN nq).cell? _ = _ := hx220_1
                            clear BK215 HB hx218_0 hx218_1 hx219_0 hx219_1 hx220_0 hx220_1 hq0_ hq1_ hq2_ hq3_ hq4_ hq5_ hq6_ hq7_
                            have BK215 := nBK215_
                            have HB := nHB_
                            have hx218_0 := nhx218_0_
                            have hx218_1 := nhx218_1_
                            have hx219_0 := nhx219_0_
                            have hx219_1 := nhx219_1_
                            have hx220_0 := nhx220_0_
                            have hx220_1 := nhx220_1_
                            clear nBK215_ nHB_ nhx218_0_ nhx218_1_ nhx219_0_ nhx219_1_ nhx220_0_ nhx220_1_
                            generalize w26.drewN nq = w27 at BK215 HB hx218_0 hx218_1 hx219_0 hx219_1 hx220_0 hx220_1 ⊢
                            try go_wp2
                            go_roundg k1
                            case measure => have := HK1.out; omega
                            case rel => exact ⟨(wrap64 (x7_1 + 1)), (by first | rfl | (simp; done) | (simp [*]; done)), H', ⟨by have := HK1.out; omega⟩, ⟨by repeat (first | (with_reducible first | exact HB.out | apply below_alloc | apply pw_below_drewN | apply below_drew1 | refine below_set ?_ GE215.out) | exact HB.out)⟩⟩
                        · rw [if_neg c18] at H
                          have c18b0 : (((rd_T109 l0 (ji10)).f0) == ((rd_T109 l0 x7_1).f0)) = false := beq_eq_false_iff_ne.mpr c18
                          have c18b1 : (((rd_T109 l0 (ji10)).f0) != ((rd_T109 l0 x7_1).f0)) = true := bne_iff_ne.mpr c18
                          have H' := Aside0.mk H
                          clear H
                          have p214 : 0 ≤ (x7_1 : Int) := of_decide_eq_true (by first | (with_reducible assumption) | assumption)
                          have q214 : x7_1 < (l0.length : Int) := of_decide_eq_true (by first | (with_reducible assumption) | assumption)
                          obtain ⟨ad214, e214, hx214_0, hx214_1⟩ := at_T109 HR0.out x7_1 p214 q214
                          cases e214
                          replace hx214_0 := (HB.out.cell (World.block_lt_of_cell? w _ hx214_0)).trans hx214_0
                          replace hx214_1 := (HB.out.cell (World.block_lt_of_cell? w _ hx214_1)).trans hx214_1
                          replace p214 := eq_true p214
                          replace q214 := eq_true q214
                          try go_wp2_with (first | ((with_reducible refine gate_dst (N := 4) rfl ?_); refine box_event ?hg (N := 4) ?hd (cs := #[.int .i64 0, .int .i64 0]) (t := 109) ?hr ?_; (case hd => rfl); (case hg => rfl); (case hr => first | (go_simp; done) | (go_simp; rfl)); intro gb215 hg w28 hbox hb; have n0_ := Aside0.mk (below_step (by repeat (first | (with_reducible first | exact HB.out | apply below_alloc | apply pw_below_drewN | apply below_drew1) | exact HB.out)) hb); have n1_ := Aside0.mk (hbox); have n2_ := Aside0.mk ((by rw [hg]; exact (below_size (by repeat (first | (with_reducible first | exact HB.out | apply below_alloc | apply pw_below_drewN | apply below_drew1) | exact HB.out))) : w.heap.size ≤ gb215)); have n3_ := Aside0.mk ((by rw [hg]; exact (below_size (by repeat (first | (with_reducible first | exact HB.out | apply below_alloc | apply pw_below_drewN | apply below_drew1) | exact HB.out))) : w.heap.size ≤ gb215)); clear HB; have HB := n0_; have BK215 := n1_; have GW215 := n2_; have GE215 := n3_; clear n0_ n1_ n2_ n3_; clear hb hbox hg; have hcz29_0 : w28.cell? ⟨gb215, 0, none⟩ = some (.int .i64 0) := (blk_cell BK215.out 0).trans rfl; have hcz29_1 : w28.cell? ⟨gb215, 1, none⟩ = some (.int .i64 0) := (blk_cell BK215.out 1).trans rfl; have hfz29_0 := blk_frozen BK215.out 0; have hfz29_1 := blk_frozen BK215.out 1))
                          have n0_ : Aside0 (((w28.setCell ⟨gb215, 0, none⟩ (.int .i64 ((rd_T109 l0 x7_1).f0))).setCell ⟨gb215, 1, none⟩ (.int .i64 ((rd_T109 l0 x7_1).f1))).heap[gb215]? = some (.cells #[.int .i64 ((rd_T109 l0 x7_1).f0), .int .i64 ((rd_T109 l0 x7_1).f1)] 109 (0, 0))) := ⟨by (with_reducible repeat (first | refine blk_drewN ?_ _ | refine blk_drew ?_ | refine blk_alloc ?_ _)); refine blk_put (cs := #[.int .i64 ((rd_T109 l0 x7_1).f0), .int .i64 0]) ?_ 1 _ rfl; (with_reducible repeat (first | refine blk_drewN ?_ _ | refine blk_drew ?_ | refine blk_alloc ?_ _)); refine blk_put (cs := #[.int .i64 0, .int .i64 0]) ?_ 0 _ rfl; (with_reducible repeat (first | refine blk_drewN ?_ _ | refine blk_drew ?_ | refine blk_alloc ?_ _)); exact BK215.out⟩
                          have n1_ : Aside0 (Below w.heap.size w ((w28.setCell ⟨gb215, 0, none⟩ (.int .i64 ((rd_T109 l0 x7_1).f0))).setCell ⟨gb215, 1, none⟩ (.int .i64 ((rd_T109 l0 x7_1).f1)))) := ⟨by repeat (first | (with_reducible first | exact HB.out | apply below_alloc | apply pw_below_drewN | apply below_drew1 | refine below_set ?_ GE215.out) | exact HB.out)⟩
                          (try clear BK215)
                          (try clear HB)
                          generalize ((w28.setCell ⟨gb215, 0, none⟩ (.int .i64 ((rd_T109 l0 x7_1).f0))).setCell ⟨gb215, 1, none⟩ (.int .i64 ((rd_T109 l0 x7_1).f1))) = w30 at n0_ n1_ ⊢
                          have BK215 := n0_
                          have HB := n1_
                          clear n0_ n1_
                          have n0_ := Aside0.mk (blk_drew BK215.out)
                          have n1_ := Aside0.mk (below_drew1 HB.out)
                          clear BK215
                          clear HB
                          have BK215 := n0_
                          have HB := n1_
                          clear n0_ n1_
                          have p218 : 0 ≤ ((ji10) : Int) := of_decide_eq_true (by first | (with_reducible assumption) | assumption)
                          have q218 : (ji10) < (l0.length : Int) := of_decide_eq_true (by first | (with_reducible assumption) | assumption)
                          obtain ⟨ad218, e218, hx218_0, hx218_1⟩ := at_T109 HR0.out (ji10) p218 q218
                          have hw218_1 := hx218_1
                          have hw218_0 := hx218_0
                          obtain rfl : ad214 = ad218 := (by injection e218)
                          replace hx218_0 := (HB.out.cell (World.block_lt_of_cell? w _ hx218_0)).trans hx218_0
                          replace hx218_1 := (HB.out.cell (World.block_lt_of_cell? w _ hx218_1)).trans hx218_1
                          replace p218 := eq_true p218
                          replace q218 := eq_true q218
                          have p219 : 0 ≤ ((ji10) : Int) := of_decide_eq_true (by first | (with_reducible assumption) | assumption)
                          have q219 : (ji10) < (l0.length : Int) := of_decide_eq_true (by first | (with_reducible assumption) | assumption)
                          obtain ⟨ad219, e219, hx219_0, hx219_1⟩ := at_T109 HR0.out (ji10) p219 q219
                          have hw219_1 := hx219_1
                          have hw219_0 := hx219_0
                          obtain rfl : ad214 = ad219 := (by injection e219)
                          replace hx219_0 := (HB.out.cell (World.block_lt_of_cell? w _ hx219_0)).trans hx219_0
                          replace hx219_1 := (HB.out.cell (World.block_lt_of_cell? w _ hx219_1)).trans hx219_1
                          replace p219 := eq_true p219
                          replace q219 := eq_true q219
                          have hq0_ : w30.cell? ⟨gb215, 0, none⟩ = some (.int .i64 ((rd_T109 l0 x7_1).f0)) := (blk_cell BK215.out 0).trans rfl
                          have hq1_ : w30.cell? ⟨gb215, 1, none⟩ = some (.int .i64 ((rd_T109 l0 x7_1).f1)) := (blk_cell BK215.out 1).trans rfl
                          have hq2_ : w30.cell? (ad214.add (((ji10)).toNat * 2)) = some (.int .i64 ((rd_T109 l0 (ji10)).f0)) := ((HB.out.cell (World.block_lt_of_cell? w _ hw218_0)).trans hw218_0)
                          have hq3_ : w30.cell? ⟨(ad214.add (((ji10)).toNat * 2)).block, (ad214.add (((ji10)).toNat * 2)).off + 1, none⟩ = some (.int .i64 ((rd_T109 l0 (ji10)).f1)) := ((HB.out.cell (World.block_lt_of_cell? w _ hw218_1)).trans hw218_1)
                          have hq4_ : w30.cell? (ad214.add (((ji10)).toNat * 2)) = some (.int .i64 ((rd_T109 l0 (ji10)).f0)) := ((HB.out.cell (World.block_lt_of_cell? w _ hw219_0)).trans hw219_0)
                          have hq5_ : w30.cell? ⟨(ad214.add (((ji10)).toNat * 2)).block, (ad214.add (((ji10)).toNat * 2)).off + 1, none⟩ = some (.int .i64 ((rd_T109 l0 (ji10)).f1)) := ((HB.out.cell (World.block_lt_of_cell? w _ hw219_1)).trans hw219_1)
                          go_quiet ((first | (go_at_call 82; apply Calls.quiet_of; ((with_reducible refine (impl_InRange.calls ((rd_T109 l0 x7_1).f0) 0 10000000 true _ A5.out).mono ?_); exact fun _ _ h_ => ⟨h_.1, h_.2.out⟩)) | (go_at_call 82; apply Calls.quiet_of; ((with_reducible refine (impl_InRange.calls ((rd_T109 l0 x7_1).f1) 0 127 true _ A7.out).mono ?_); exact fun _ _ h_ => ⟨h_.1, h_.2.out⟩))))
                          have nBK215_ := Aside0.mk (blk_drewN (w := w30) BK215.out nq)
                          have nHB_ := Aside0.mk (pw_below_drewN (W := w30) ⟨HB.out.os, HB.out.tape, HB.out.output, HB.out.size, HB.out.block⟩ nq)
                          have nhx218_0_ : (w30.drewN nq).cell? _ = _ := hx218_0
                          have nhx218_1_ : (w30.drewN nq).cell? _ = _ := hx218_1
                          have nhx219_0_ : (w30.drewN nq).cell? _ = _ := hx219_0
                          have nhx219_1_ : (w30.drewN nq).cell? _ = _ := hx219_1
                          clear BK215 HB hx218_0 hx218_1 hx219_0 hx219_1 hq0_ hq1_ hq2_ hq3_ hq4_ hq5_
                          have BK215 := nBK215_
                          have HB := nHB_
                          have hx218_0 := nhx218_0_
                          have hx218_1 := nhx218_1_
                          have hx219_0 := nhx219_0_
                          have hx219_1 := nhx219_1_
                          clear nBK215_ nHB_ nhx218_0_ nhx218_1_ nhx219_0_ nhx219_1_
                          generalize w30.drewN nq = w31 at BK215 HB hx218_0 hx218_1 hx219_0 hx219_1 ⊢
                          try go_wp2
                          go_roundg k1
                          case measure => have := HK1.out; omega
                          case rel => exact ⟨(wrap64 (x7_1 + 1)), (by first | rfl | (simp; done) | (simp [*]; done)), H', ⟨by have := HK1.out; omega⟩, ⟨by repeat (first | (with_reducible first | exact HB.out | apply below_alloc | apply pw_below_drewN | apply below_drew1 | refine below_set ?_ GE215.out) | exact HB.out)⟩⟩
                    · rw [if_neg c12] at H
                      exact absurd H (by simp)
                  · rw [if_neg c11] at H
                    exact absurd H (by simp)
                · rw [if_neg c9] at H
                  have c9b0 : decide (0 < x7_1) = false := decide_eq_false c9
                  clear c9
                  have H' := Aside0.mk H
                  clear H
                  have p214 : 0 ≤ (x7_1 : Int) := of_decide_eq_true (by first | (with_reducible assumption) | assumption)
                  have q214 : x7_1 < (l0.length : Int) := of_decide_eq_true (by first | (with_reducible assumption) | assumption)
                  obtain ⟨ad214, e214, hx214_0, hx214_1⟩ := at_T109 HR0.out x7_1 p214 q214
                  cases e214
                  replace hx214_0 := (HB.out.cell (World.block_lt_of_cell? w _ hx214_0)).trans hx214_0
                  replace hx214_1 := (HB.out.cell (World.block_lt_of_cell? w _ hx214_1)).trans hx214_1
                  replace p214 := eq_true p214
                  replace q214 := eq_true q214
                  try go_wp2_with (first | ((with_reducible refine gate_dst (N := 4) rfl ?_); refine box_event ?hg (N := 4) ?hd (cs := #[.int .i64 0, .int .i64 0]) (t := 109) ?hr ?_; (case hd => rfl); (case hg => rfl); (case hr => first | (go_simp; done) | (go_simp; rfl)); intro gb215 hg w32 hbox hb; have n0_ := Aside0.mk (below_step (by repeat (first | (with_reducible first | exact HB.out | apply below_alloc | apply pw_below_drewN | apply below_drew1) | exact HB.out)) hb); have n1_ := Aside0.mk (hbox); have n2_ := Aside0.mk ((by rw [hg]; exact (below_size (by repeat (first | (with_reducible first | exact HB.out | apply below_alloc | apply pw_below_drewN | apply below_drew1) | exact HB.out))) : w.heap.size ≤ gb215)); have n3_ := Aside0.mk ((by rw [hg]; exact (below_size (by repeat (first | (with_reducible first | exact HB.out | apply below_alloc | apply pw_below_drewN | apply below_drew1) | exact HB.out))) : w.heap.size ≤ gb215)); clear HB; have HB := n0_; have BK215 := n1_; have GW215 := n2_; have GE215 := n3_; clear n0_ n1_ n2_ n3_; clear hb hbox hg; have hcz33_0 : w32.cell? ⟨gb215, 0, none⟩ = some (.int .i64 0) := (blk_cell BK215.out 0).trans rfl; have hcz33_1 : w32.cell? ⟨gb215, 1, none⟩ = some (.int .i64 0) := (blk_cell BK215.out 1).trans rfl; have hfz33_0 := blk_frozen BK215.out 0; have hfz33_1 := blk_frozen BK215.out 1))
                  have n0_ : Aside0 (((w32.setCell ⟨gb215, 0, none⟩ (.int .i64 ((rd_T109 l0 x7_1).f0))).setCell ⟨gb215, 1, none⟩ (.int .i64 ((rd_T109 l0 x7_1).f1))).heap[gb215]? = some (.cells #[.int .i64 ((rd_T109 l0 x7_1).f0), .int .i64 ((rd_T109 l0 x7_1).f1)] 109 (0, 0))) := ⟨by (with_reducible repeat (first | refine blk_drewN ?_ _ | refine blk_drew ?_ | refine blk_alloc ?_ _)); refine blk_put (cs := #[.int .i64 ((rd_T109 l0 x7_1).f0), .int .i64 0]) ?_ 1 _ rfl; (with_reducible repeat (first | refine blk_drewN ?_ _ | refine blk_drew ?_ | refine blk_alloc ?_ _)); refine blk_put (cs := #[.int .i64 0, .int .i64 0]) ?_ 0 _ rfl; (with_reducible repeat (first | refine blk_drewN ?_ _ | refine blk_drew ?_ | refine blk_alloc ?_ _)); exact BK215.out⟩
                  have n1_ : Aside0 (Below w.heap.size w ((w32.setCell ⟨gb215, 0, none⟩ (.int .i64 ((rd_T109 l0 x7_1).f0))).setCell ⟨gb215, 1, none⟩ (.int .i64 ((rd_T109 l0 x7_1).f1)))) := ⟨by repeat (first | (with_reducible first | exact HB.out | apply below_alloc | apply pw_below_drewN | apply below_drew1 | refine below_set ?_ GE215.out) | exact HB.out)⟩
                  (try clear BK215)
                  (try clear HB)
                  generalize ((w32.setCell ⟨gb215, 0, none⟩ (.int .i64 ((rd_T109 l0 x7_1).f0))).setCell ⟨gb215, 1, none⟩ (.int .i64 ((rd_T109 l0 x7_1).f1))) = w34 at n0_ n1_ ⊢
                  have BK215 := n0_
                  have HB := n1_
                  clear n0_ n1_
                  have n0_ := Aside0.mk (blk_drew BK215.out)
                  have n1_ := Aside0.mk (below_drew1 HB.out)
                  clear BK215
                  clear HB
                  have BK215 := n0_
                  have HB := n1_
                  clear n0_ n1_
                  have hq0_ : w34.cell? ⟨gb215, 0, none⟩ = some (.int .i64 ((rd_T109 l0 x7_1).f0)) := (blk_cell BK215.out 0).trans rfl
                  have hq1_ : w34.cell? ⟨gb215, 1, none⟩ = some (.int .i64 ((rd_T109 l0 x7_1).f1)) := (blk_cell BK215.out 1).trans rfl
                  go_quiet ((first | (go_at_call 82; apply Calls.quiet_of; ((with_reducible refine (impl_InRange.calls ((rd_T109 l0 x7_1).f0) 0 10000000 true _ A5.out).mono ?_); exact fun _ _ h_ => ⟨h_.1, h_.2.out⟩)) | (go_at_call 82; apply Calls.quiet_of; ((with_reducible refine (impl_InRange.calls ((rd_T109 l0 x7_1).f1) 0 127 true _ A7.out).mono ?_); exact fun _ _ h_ => ⟨h_.1, h_.2.out⟩))))
                  have nBK215_ := Aside0.mk (blk_drewN (w := w34) BK215.out nq)
                  have nHB_ := Aside0.mk (pw_below_drewN (W := w34) ⟨HB.out.os, HB.out.tape, HB.out.output, HB.out.size, HB.out.block⟩ nq)
                  clear BK215 HB hq0_ hq1_
                  have BK215 := nBK215_
                  have HB := nHB_
                  clear nBK215_ nHB_
                  generalize w34.drewN nq = w35 at BK215 HB ⊢
                  try go_wp2
                  go_roundg k1
                  case measure => have := HK1.out; omega
                  case rel => exact ⟨(wrap64 (x7_1 + 1)), (by first | rfl | (simp; done) | (simp [*]; done)), H', ⟨by have := HK1.out; omega⟩, ⟨by repeat (first | (with_reducible first | exact HB.out | apply below_alloc | apply pw_below_drewN | apply below_drew1 | refine below_set ?_ GE215.out) | exact HB.out)⟩⟩
              · replace c8 := Bool.eq_false_iff.mpr c8
                subst c8
                have H1 : (some false) = some r := by rw [if_neg (show ¬ (false = true) by decide)] at H; exact H
                clear H
                have H := H1
                clear H1
                obtain rfl := Option.some.inj H
                have p214 : 0 ≤ (x7_1 : Int) := of_decide_eq_true (by first | (with_reducible assumption) | assumption)
                have q214 : x7_1 < (l0.length : Int) := of_decide_eq_true (by first | (with_reducible assumption) | assumption)
                obtain ⟨ad214, e214, hx214_0, hx214_1⟩ := at_T109 HR0.out x7_1 p214 q214
                cases e214
                replace hx214_0 := (HB.out.cell (World.block_lt_of_cell? w _ hx214_0)).trans hx214_0
                replace hx214_1 := (HB.out.cell (World.block_lt_of_cell? w _ hx214_1)).trans hx214_1
                replace p214 := eq_true p214
                replace q214 := eq_true q214
                try go_wp2_with (first | ((with_reducible refine gate_dst (N := 4) rfl ?_); refine box_event ?hg (N := 4) ?hd (cs := #[.int .i64 0, .int .i64 0]) (t := 109) ?hr ?_; (case hd => rfl); (case hg => rfl); (case hr => first | (go_simp; done) | (go_simp; rfl)); intro gb215 hg w36 hbox hb; have n0_ := Aside0.mk (below_step (by repeat (first | (with_reducible first | exact HB.out | apply below_alloc | apply pw_below_drewN | apply below_drew1) | exact HB.out)) hb); have n1_ := Aside0.mk (hbox); have n2_ := Aside0.mk ((by rw [hg]; exact (below_size (by repeat (first | (with_reducible first | exact HB.out | apply below_alloc | apply pw_below_drewN | apply below_drew1) | exact HB.out))) : w.heap.size ≤ gb215)); have n3_ := Aside0.mk ((by rw [hg]; exact (below_size (by repeat (first | (with_reducible first | exact HB.out | apply below_alloc | apply pw_below_drewN | apply below_drew1) | exact HB.out))) : w.heap.size ≤ gb215)); clear HB; have HB := n0_; have BK215 := n1_; have GW215 := n2_; have GE215 := n3_; clear n0_ n1_ n2_ n3_; clear hb hbox hg; have hcz37_0 : w36.cell? ⟨gb215, 0, none⟩ = some (.int .i64 0) := (blk_cell BK215.out 0).trans rfl; have hcz37_1 : w36.cell? ⟨gb215, 1, none⟩ = some (.int .i64 0) := (blk_cell BK215.out 1).trans rfl; have hfz37_0 := blk_frozen BK215.out 0; have hfz37_1 := blk_frozen BK215.out 1))
                have n0_ : Aside0 (((w36.setCell ⟨gb215, 0, none⟩ (.int .i64 ((rd_T109 l0 x7_1).f0))).setCell ⟨gb215, 1, none⟩ (.int .i64 ((rd_T109 l0 x7_1).f1))).heap[gb215]? = some (.cells #[.int .i64 ((rd_T109 l0 x7_1).f0), .int .i64 ((rd_T109 l0 x7_1).f1)] 109 (0, 0))) := ⟨by (with_reducible repeat (first | refine blk_drewN ?_ _ | refine blk_drew ?_ | refine blk_alloc ?_ _)); refine blk_put (cs := #[.int .i64 ((rd_T109 l0 x7_1).f0), .int .i64 0]) ?_ 1 _ rfl; (with_reducible repeat (first | refine blk_drewN ?_ _ | refine blk_drew ?_ | refine blk_alloc ?_ _)); refine blk_put (cs := #[.int .i64 0, .int .i64 0]) ?_ 0 _ rfl; (with_reducible repeat (first | refine blk_drewN ?_ _ | refine blk_drew ?_ | refine blk_alloc ?_ _)); exact BK215.out⟩
                have n1_ : Aside0 (Below w.heap.size w ((w36.setCell ⟨gb215, 0, none⟩ (.int .i64 ((rd_T109 l0 x7_1).f0))).setCell ⟨gb215, 1, none⟩ (.int .i64 ((rd_T109 l0 x7_1).f1)))) := ⟨by repeat (first | (with_reducible first | exact HB.out | apply below_alloc | apply pw_below_drewN | apply below_drew1 | refine below_set ?_ GE215.out) | exact HB.out)⟩
                (try clear BK215)
                (try clear HB)
                generalize ((w36.setCell ⟨gb215, 0, none⟩ (.int .i64 ((rd_T109 l0 x7_1).f0))).setCell ⟨gb215, 1, none⟩ (.int .i64 ((rd_T109 l0 x7_1).f1))) = w38 at n0_ n1_ ⊢
                have BK215 := n0_
                have HB := n1_
                clear n0_ n1_
                have n0_ := Aside0.mk (blk_drew BK215.out)
                have n1_ := Aside0.mk (below_drew1 HB.out)
                clear BK215
                clear HB
                have BK215 := n0_
                have HB := n1_
                clear n0_ n1_
                have hq0_ : w38.cell? ⟨gb215, 0, none⟩ = some (.int .i64 ((rd_T109 l0 x7_1).f0)) := (blk_cell BK215.out 0).trans rfl
                have hq1_ : w38.cell? ⟨gb215, 1, none⟩ = some (.int .i64 ((rd_T109 l0 x7_1).f1)) := (blk_cell BK215.out 1).trans rfl
                go_quiet ((first | (go_at_call 82; apply Calls.quiet_of; ((with_reducible refine (impl_InRange.calls ((rd_T109 l0 x7_1).f0) 0 10000000 true _ A5.out).mono ?_); exact fun _ _ h_ => ⟨h_.1, h_.2.out⟩)) | (go_at_call 82; apply Calls.quiet_of; ((with_reducible refine (impl_InRange.calls ((rd_T109 l0 x7_1).f1) 0 127 false _ A7.out).mono ?_); exact fun _ _ h_ => ⟨h_.1, h_.2.out⟩))))
                have nBK215_ := Aside0.mk (blk_drewN (w := w38) BK215.out nq)
                have nHB_ := Aside0.mk (pw_below_drewN (W := w38) ⟨HB.out.os, HB.out.tape, HB.out.output, HB.out.size, HB.out.block⟩ nq)
                clear BK215 HB hq0_ hq1_
                have BK215 := nBK215_
                have HB := nHB_
                clear nBK215_ nHB_
                generalize w38.drewN nq = w39 at BK215 HB ⊢
                try go_wp2
                go_ret
                exact ⟨by first | rfl | (simp [errW_none, errW_some] <;> rfl) | (simp [*, errW_none, errW_some] <;> rfl), by repeat (first | (with_reducible first | exact HB.out | apply below_alloc | apply pw_below_drewN | apply below_drew1 | refine below_set ?_ GE215.out) | exact HB.out)⟩
            · replace c6 := Bool.eq_false_iff.mpr c6
              subst c6
              have H1 : (some false) = some r := by rw [if_neg (show ¬ (false = true) by decide)] at H; exact H
              clear H
              have H := H1
              clear H1
              obtain rfl := Option.some.inj H
              have p214 : 0 ≤ (x7_1 : Int) := of_decide_eq_true (by first | (with_reducible assumption) | assumption)
              have q214 : x7_1 < (l0.length : Int) := of_decide_eq_true (by first | (with_reducible assumption) | assumption)
              obtain ⟨ad214, e214, hx214_0, hx214_1⟩ := at_T109 HR0.out x7_1 p214 q214
              cases e214
              replace hx214_0 := (HB.out.cell (World.block_lt_of_cell? w _ hx214_0)).trans hx214_0
              replace hx214_1 := (HB.out.cell (World.block_lt_of_cell? w _ hx214_1)).trans hx214_1
              replace p214 := eq_true p214
              replace q214 := eq_true q214
              try go_wp2_with (first | ((with_reducible refine gate_dst (N := 4) rfl ?_); refine box_event ?hg (N := 4) ?hd (cs := #[.int .i64 0, .int .i64 0]) (t := 109) ?hr ?_; (case hd => rfl); (case hg => rfl); (case hr => first | (go_simp; done) | (go_simp; rfl)); intro gb215 hg w40 hbox hb; have n0_ := Aside0.mk (below_step (by repeat (first | (with_reducible first | exact HB.out | apply below_alloc | apply pw_below_drewN | apply below_drew1) | exact HB.out)) hb); have n1_ := Aside0.mk (hbox); have n2_ := Aside0.mk ((by rw [hg]; exact (below_size (by repeat (first | (with_reducible first | exact HB.out | apply below_alloc | apply pw_below_drewN | apply below_drew1) | exact HB.out))) : w.heap.size ≤ gb215)); have n3_ := Aside0.mk ((by rw [hg]; exact (below_size (by repeat (first | (with_reducible first | exact HB.out | apply below_alloc | apply pw_below_drewN | apply below_drew1) | exact HB.out))) : w.heap.size ≤ gb215)); clear HB; have HB := n0_; have BK215 := n1_; have GW215 := n2_; have GE215 := n3_; clear n0_ n1_ n2_ n3_; clear hb hbox hg; have hcz41_0 : w40.cell? ⟨gb215, 0, none⟩ = some (.int .i64 0) := (blk_cell BK215.out 0).trans rfl; have hcz41_1 : w40.cell? ⟨gb215, 1, none⟩ = some (.int .i64 0) := (blk_cell BK215.out 1).trans rfl; have hfz41_0 := blk_frozen BK215.out 0; have hfz41_1 := blk_frozen BK215.out 1))
              have n0_ : Aside0 (((w40.setCell ⟨gb215, 0, none⟩ (.int .i64 ((rd_T109 l0 x7_1).f0))).setCell ⟨gb215, 1, none⟩ (.int .i64 ((rd_T109 l0 x7_1).f1))).heap[gb215]? = some (.cells #[.int .i64 ((rd_T109 l0 x7_1).f0), .int .i64 ((rd_T109 l0 x7_1).f1)] 109 (0, 0))) := ⟨by (with_reducible repeat (first | refine blk_drewN ?_ _ | refine blk_drew ?_ | refine blk_alloc ?_ _)); refine blk_put (cs := #[.int .i64 ((rd_T109 l0 x7_1).f0), .int .i64 0]) ?_ 1 _ rfl; (with_reducible repeat (first | refine blk_drewN ?_ _ | refine blk_drew ?_ | refine blk_alloc ?_ _)); refine blk_put (cs := #[.int .i64 0, .int .i64 0]) ?_ 0 _ rfl; (with_reducible repeat (first | refine blk_drewN ?_ _ | refine blk_drew ?_ | refine blk_alloc ?_ _)); exact BK215.out⟩
              have n1_ : Aside0 (Below w.heap.size w ((w40.setCell ⟨gb215, 0, none⟩ (.int .i64 ((rd_T109 l0 x7_1).f0))).setCell ⟨gb215, 1, none⟩ (.int .i64 ((rd_T109 l0 x7_1).f1)))) := ⟨by repeat (first | (with_reducible first | exact HB.out | apply below_alloc | apply pw_below_drewN | apply below_drew1 | refine below_set ?_ GE215.out) | exact HB.out)⟩
              (try clear BK215)
              (try clear HB)
              generalize ((w40.setCell ⟨gb215, 0, none⟩ (.int .i64 ((rd_T109 l0 x7_1).f0))).setCell ⟨gb215, 1, none⟩ (.int .i64 ((rd_T109 l0 x7_1).f1))) = w42 at n0_ n1_ ⊢
              have BK215 := n0_
              have HB := n1_
              clear n0_ n1_
              have n0_ := Aside0.mk (blk_drew BK215.out)
              have n1_ := Aside0.mk (below_drew1 HB.out)
              clear BK215
              clear HB
              have BK215 := n0_
              have HB := n1_
              clear n0_ n1_
              have hq0_ : w42.cell? ⟨gb215, 0, none⟩ = some (.int .i64 ((rd_T109 l0 x7_1).f0)) := (blk_cell BK215.out 0).trans rfl
              have hq1_ : w42.cell? ⟨gb215, 1, none⟩ = some (.int .i64 ((rd_T109 l0 x7_1).f1)) := (blk_cell BK215.out 1).trans rfl
              go_quiet ((first | (go_at_call 82; apply Calls.quiet_of; ((with_reducible refine (impl_InRange.calls ((rd_T109 l0 x7_1).f0) 0 10000000 false _ A5.out).mono ?_); exact fun _ _ h_ => ⟨h_.1, h_.2.out⟩))))
              have nBK215_ := Aside0.mk (blk_drewN (w := w42) BK215.out nq)
              have nHB_ := Aside0.mk (pw_below_drewN (W := w42) ⟨HB.out.os, HB.out.tape, HB.out.output, HB.out.size, HB.out.block⟩ nq)
              clear BK215 HB hq0_ hq1_
              have BK215 := nBK215_
              have HB := nHB_
              clear nBK215_ nHB_
              generalize w42.drewN nq = w43 at BK215 HB ⊢
              try go_wp2
              go_ret
              exact ⟨by first | rfl | (simp [errW_none, errW_some] <;> rfl) | (simp [*, errW_none, errW_some] <;> rfl), by repeat (first | (with_reducible first | exact HB.out | apply below_alloc | apply pw_below_drewN | apply below_drew1 | refine below_set ?_ GE215.out) | exact HB.out)⟩
          · rw [if_neg c4] at H
            exact absurd H (by simp)
        · rw [if_neg c3] at H
          exact absurd H (by simp)
      · rw [if_neg c2] at H
        have c2b0 : decide (x7_1 < (l0.length : Int)) = false := decide_eq_false c2
        clear c2
        obtain rfl := Option.some.inj H
        go_wp2
        go_ret
        exact ⟨by first | rfl | (simp [errW_none, errW_some] <;> rfl) | (simp [*, errW_none, errW_some] <;> rfl), by repeat (first | (with_reducible first | exact HB.out | apply below_alloc | apply pw_below_drewN | apply below_drew1) | exact HB.out)⟩

end Go.Proofs.Ytiophiipmgpaeaa.F

/- Performances: what their test comes to. -/
namespace Go.Proofs.Ytiophiipmgpaeaa.F
open Go.RowKit Go.Proofs.Ytiophiipmgpaeaa.Opened Go.Proofs.YtiophiipmgpaeaaW.PrintWords Go.Proofs.YtiophiipmgpaeaaW.PrintLast Go.Proofs.YtiophiipmgpaeaaW.PrintMore
set_option linter.unusedVariables false
set_option linter.unusedSimpArgs false

abbrev Pld := S109
def okP (e : Pld) : Prop := ((0 : Int) ≤ e.f0 ∧ e.f0 ≤ 10000000) ∧ ((0 : Int) ≤ e.f1 ∧ e.f1 ≤ 127)
instance (e : Pld) : Decidable (okP e) := by unfold okP; infer_instance
/-- Sounds in order: by time, then pitch; the same sound twice is let. -/
def leP (a b : Pld) : Prop := a.f0 < b.f0 ∨ (a.f0 = b.f0 ∧ a.f1 ≤ b.f1)
instance (a b : Pld) : Decidable (leP a b) := by unfold leP; infer_instance
theorem leP_trans {a b c : Pld} (h : leP a b) (h' : leP b c) : leP a c := by unfold leP at *; omega
theorem leP_total (a b : Pld) : leP a b ∨ leP b a := by unfold leP; omega
def pfB : Option Pld → List Pld → Bool
  | _, [] => true
  | none, e :: l => decide (okP e) && pfB (some e) l
  | some q, e :: l => decide (okP e) && (decide (leP q e) && pfB (some e) l)
def isPerfB (l : List Pld) : Bool := pfB none l && decide (l.length ≤ 60)
theorem pfB_some (q : Pld) (l : List Pld) : pfB (some q) l = true ↔ (∀ x ∈ l, okP x) ∧ l.Pairwise leP ∧ ∀ x ∈ l, leP q x := by
  induction l generalizing q with
  | nil => simp [pfB]
  | cons e l ih =>
    simp only [pfB, Bool.and_eq_true, decide_eq_true_eq, ih e, List.mem_cons, forall_eq_or_imp, List.pairwise_cons]
    constructor
    · rintro ⟨h1, h2, h3, h4, h5⟩
      exact ⟨⟨h1, h3⟩, ⟨h5, h4⟩, h2, fun x hx => leP_trans h2 (h5 x hx)⟩
    · rintro ⟨⟨h1, h3⟩, ⟨h5, h4⟩, h2, h6⟩
      exact ⟨h1, h2, h3, h4, h5⟩
theorem pfB_none (l : List Pld) : pfB none l = true ↔ (∀ x ∈ l, okP x) ∧ l.Pairwise leP := by
  cases l with
  | nil => simp [pfB]
  | cons e l =>
    simp only [pfB, Bool.and_eq_true, decide_eq_true_eq, pfB_some, List.mem_cons, forall_eq_or_imp, List.pairwise_cons]
    constructor
    · rintro ⟨h1, h3, h4, h5⟩
      exact ⟨⟨h1, h3⟩, h5, h4⟩
    · rintro ⟨⟨h1, h3⟩, h5, h4⟩
      exact ⟨h1, h3, h4, h5⟩
theorem isPerfB_iff (l : List Pld) : isPerfB l = true ↔ (∀ x ∈ l, okP x) ∧ l.Pairwise leP ∧ l.length ≤ 60 := by
  unfold isPerfB
  rw [Bool.and_eq_true, pfB_none, decide_eq_true_eq, and_assoc]
def prevP (l : List Pld) (n : Nat) : Option Pld := if n = 0 then none else l[n - 1]?
theorem prevP_next (l : List Pld) (n : Nat) (h : n < l.length) : prevP l (n + 1) = some l[n] := by simp [prevP, h]
theorem prevP_pos (l : List Pld) (n : Nat) (h0 : n ≠ 0) (h : n - 1 < l.length) : prevP l n = some l[n - 1] := by simp [prevP, h0, h]
theorem spec_IsPerformance.loop (l : List Pld) (hm : l.length ≤ 9223372036854775807) : ∀ (d k n : Nat), l.length - n ≤ d → d < k → spec_IsPerformance.l0 k l (n : Int) = some (pfB (prevP l n) (l.drop n) && decide (l.length ≤ 60)) := by
  intro d
  induction d with
  | zero =>
    intro k n hd hk
    obtain ⟨k, rfl⟩ : ∃ m, k = m + 1 := ⟨k - 1, by omega⟩
    simp only [spec_IsPerformance.l0]
    rw [if_neg (by omega), List.drop_of_length_le (by omega)]
    have e : ((l.length : Int) ≤ 60) ↔ l.length ≤ 60 := by omega
    simp [pfB, e]
  | succ d ih =>
    intro k n hd hk
    obtain ⟨k, rfl⟩ : ∃ m, k = m + 1 := ⟨k - 1, by omega⟩
    by_cases h : n < l.length
    · simp only [spec_IsPerformance.l0, spec_l1In.ok, Option.bind_some]
      rw [if_pos (by omega), if_pos (by omega), rdT109 l n h, w1 h hm, List.drop_eq_getElem_cons h]
      have ih' := ih k (n + 1) (by omega) (by omega)
      rw [prevP_next l n h] at ih'
      by_cases c1 : (0 : Int) ≤ l[n].f0 ∧ l[n].f0 ≤ (10000000 : Int)
      · by_cases c2 : (0 : Int) ≤ l[n].f1 ∧ l[n].f1 ≤ (127 : Int)
        · have ok : okP l[n] := ⟨c1, c2⟩
          rw [if_pos (by simpa using c1), if_pos (by simpa using c2)]
          by_cases c3 : n = 0
          · subst c3
            rw [if_neg (by omega), ih']
            simp [prevP, pfB, ok]
          · have e : wrap64 ((n : Int) - 1) = ((n - 1 : Nat) : Int) := by unfold wrap64; omega
            rw [if_pos (by omega), e, if_pos (by omega), if_pos (by omega), rdT109 l (n - 1) (by omega), prevP_pos l n c3 (by omega), ih']
            by_cases c4 : l[n - 1].f0 > l[n].f0
            · rw [if_pos c4]
              have : ¬ leP l[n - 1] l[n] := by unfold leP; omega
              simp [pfB, this]
            · rw [if_neg c4]
              by_cases c5 : l[n - 1].f0 = l[n].f0
              · rw [if_pos c5]
                by_cases c6 : l[n - 1].f1 > l[n].f1
                · rw [if_pos c6]
                  have : ¬ leP l[n - 1] l[n] := by unfold leP; omega
                  simp [pfB, this]
                · rw [if_neg c6]
                  have : leP l[n - 1] l[n] := by unfold leP; omega
                  simp [pfB, ok, this]
              · rw [if_neg c5]
                have : leP l[n - 1] l[n] := by unfold leP; omega
                simp [pfB, ok, this]
        · have ok : ¬ okP l[n] := fun h => c2 h.2
          rw [if_pos (by simpa using c1), if_neg (by simpa using c2)]
          cases prevP l n <;> simp [pfB, ok]
      · have ok : ¬ okP l[n] := fun h => c1 h.1
        rw [if_neg (by simpa using c1)]
        cases prevP l n <;> simp [pfB, ok]
    · simp only [spec_IsPerformance.l0]
      rw [if_neg (by omega), List.drop_of_length_le (by omega)]
      have e : ((l.length : Int) ≤ 60) ↔ l.length ≤ 60 := by omega
      simp [pfB, e]
theorem spec_IsPerformance.ok (l : List Pld) (hm : l.length ≤ 9223372036854775807) (k : Nat) (hk : l.length < k) : spec_IsPerformance.f k l = some (isPerfB l) := by
  unfold spec_IsPerformance.f
  exact spec_IsPerformance.loop l hm l.length k 0 (by omega) hk
theorem impl_IsPerformance.loop (l : List Pld) (hm : l.length ≤ 9223372036854775807) : ∀ (d k n : Nat), l.length - n ≤ d → d < k → impl_IsPerformance.l0 k l l l.length (n : Int) = some (pfB (prevP l n) (l.drop n) && decide (l.length ≤ 60)) := by
  intro d
  induction d with
  | zero =>
    intro k n hd hk
    obtain ⟨k, rfl⟩ : ∃ m, k = m + 1 := ⟨k - 1, by omega⟩
    simp only [impl_IsPerformance.l0]
    rw [if_neg (by omega), List.drop_of_length_le (by omega)]
    have e : ((l.length : Int) ≤ 60) ↔ l.length ≤ 60 := by omega
    simp [pfB, e]
  | succ d ih =>
    intro k n hd hk
    obtain ⟨k, rfl⟩ : ∃ m, k = m + 1 := ⟨k - 1, by omega⟩
    by_cases h : n < l.length
    · simp only [impl_IsPerformance.l0, impl_InRange.ok, Option.bind_some]
      rw [if_pos (by omega), if_pos (by omega), if_pos (by omega), rdT109 l n h, w1 h hm, List.drop_eq_getElem_cons h]
      have ih' := ih k (n + 1) (by omega) (by omega)
      rw [prevP_next l n h] at ih'
      by_cases c1 : (0 : Int) ≤ l[n].f0 ∧ l[n].f0 ≤ (10000000 : Int)
      · by_cases c2 : (0 : Int) ≤ l[n].f1 ∧ l[n].f1 ≤ (127 : Int)
        · have ok : okP l[n] := ⟨c1, c2⟩
          rw [if_pos (by simpa using c1), if_pos (by simpa using c2)]
          by_cases c3 : n = 0
          · subst c3
            rw [if_neg (by omega), ih']
            simp [prevP, pfB, ok]
          · have e : wrap64 ((n : Int) - 1) = ((n - 1 : Nat) : Int) := by unfold wrap64; omega
            rw [if_pos (by omega), e, if_pos (by omega), if_pos (by omega), rdT109 l (n - 1) (by omega), prevP_pos l n c3 (by omega), ih']
            by_cases c4 : l[n - 1].f0 > l[n].f0
            · rw [if_pos c4]
              have : ¬ leP l[n - 1] l[n] := by unfold leP; omega
              simp [pfB, this]
            · rw [if_neg c4]
              by_cases c5 : l[n - 1].f0 = l[n].f0
              · rw [if_pos c5]
                by_cases c6 : l[n - 1].f1 > l[n].f1
                · rw [if_pos c6]
                  have : ¬ leP l[n - 1] l[n] := by unfold leP; omega
                  simp [pfB, this]
                · rw [if_neg c6]
                  have : leP l[n - 1] l[n] := by unfold leP; omega
                  simp [pfB, ok, this]
              · rw [if_neg c5]
                have : leP l[n - 1] l[n] := by unfold leP; omega
                simp [pfB, ok, this]
        · have ok : ¬ okP l[n] := fun h => c2 h.2
          rw [if_pos (by simpa using c1), if_neg (by simpa using c2)]
          cases prevP l n <;> simp [pfB, ok]
      · have ok : ¬ okP l[n] := fun h => c1 h.1
        rw [if_neg (by simpa using c1)]
        cases prevP l n <;> simp [pfB, ok]
    · simp only [impl_IsPerformance.l0]
      rw [if_neg (by omega), List.drop_of_length_le (by omega)]
      have e : ((l.length : Int) ≤ 60) ↔ l.length ≤ 60 := by omega
      simp [pfB, e]
theorem impl_IsPerformance.ok (l : List Pld) (hm : l.length ≤ 9223372036854775807) (k : Nat) (hk : l.length < k) : impl_IsPerformance.f k l = some (isPerfB l) := by
  unfold impl_IsPerformance.f
  exact impl_IsPerformance.loop l hm l.length k 0 (by omega) hk
end Go.Proofs.Ytiophiipmgpaeaa.F

-- Written for this claim by the kit's print.py out of the translation, called by wip/tools/fprint.py. Lean checks it.
namespace Go.Proofs.Ytiophiipmgpaeaa.F
open Go.RowKit Go.Proofs.YtiophiipmgpaeaaW.PrintWords Go.Proofs.YtiophiipmgpaeaaW.PrintLast Go.Proofs.YtiophiipmgpaeaaW.PrintMore
attribute [local go_sem] max2_int min2_int max_two min_two max_three min_three max_four min_four   -- for this text's walks alone
set_option linter.unusedVariables false
set_option linter.unusedSimpArgs false

/-! ### impl_Played_88: function 88 -/
def impl_Played_88.f (l0 : List (S109)) : Option ((List (S109))) := (some (([] : List (S109)) : List (S109))).bind fun y335 => (if y335.length + l0.length < 8796093022208 then (some (y335 ++ l0)) else (none))
set_option maxHeartbeats 8000000 in
set_option maxRecDepth 100000 in
theorem impl_Played_88.calls (A0 : Option Addr) (c0 : Nat) (l0 : List (S109)) (r : List (S109)) (w : World) (hr0 : Kd.C k109 w A0 l0.length l0) (hc0 : l0.length ≤ c0) (h : impl_Played_88.f l0 = some r) :
    Calls Try.prog 88 #[.slice A0 l0.length c0] w fun e w' => ∃ v0_ : Value, e = .returned (v0_) ∧ Kd.R k109 109 w' w.heap.size (fun _ => True) v0_ r ∧ Below w.heap.size w w' := by
  have HR0 := Aside0.mk hr0
  have HC0 := Aside0.mk hc0
  clear hr0 hc0
  have HB := Aside0.mk (Below.refl w.heap.size w)
  have H : ((some (([] : List (S109)) : List (S109))).bind fun y335 => (if y335.length + l0.length < 8796093022208 then (some (y335 ++ l0)) else (none))) = some r := h
  clear h
  obtain ⟨y335, hy335⟩ : ∃ y_ : List (S109), y_ = (([] : List (S109))) := ⟨_, rfl⟩
  replace H : (if y335.length + l0.length < 8796093022208 then (some (y335 ++ l0)) else (none)) = some r := by first | (rw [hy335]; with_reducible exact H) | (have H2_ := (Option.bind_some _ _).symm.trans H; rw [hy335]; with_reducible exact H2_) | (have H2_ := (Option.bind_some _ _).symm.trans H; with_reducible exact H2_) | with_reducible exact H | (rw [hy335]; exact H) | exact H
  have Ny335 := Aside0.mk hy335
  clear hy335
  by_cases c2 : y335.length + l0.length < 8796093022208
  · rw [if_pos c2] at H
    have LMc2 := Aside0.mk c2
    clear c2
    obtain ⟨y338, hy338⟩ : ∃ y_ : List (S109), y_ = (y335 ++ l0) := ⟨_, rfl⟩
    replace H : (some y338) = some r := by first | (rw [hy338]; with_reducible exact H) | (have H2_ := (Option.bind_some _ _).symm.trans H; rw [hy338]; with_reducible exact H2_) | (have H2_ := (Option.bind_some _ _).symm.trans H; with_reducible exact H2_) | with_reducible exact H | (rw [hy338]; exact H) | exact H
    have Ny338 := Aside0.mk hy338
    clear hy338
    obtain rfl := Option.some.inj H
    go_enter Try.func88, Try.ntmps88
    go_wp2_with (first | ((with_reducible refine gate_dst (N := 3) rfl ?_); refine Kd.R_lit k109 _ 109 ?hg (N := 3) ?hd (xs := ([] : List (S109))) (inner := []) (ok := fun _ => True) (okp := fun _ => True) ?hr ?hp (fun _ hk => hk) trivial (Below.refl _ _) (Nat.le_refl _) (by simp) ?_; (case hd => rfl); (case hg => rfl); (case hr => first | (go_simp; done) | (go_simp; rfl)); (case hp => exact (Reps.none _ _)); intro v336 w3 ho4 hb hg_ hnew_; clear hg_ hnew_; (first | rw [← Ny335.out] at ho4 | (simp only [Int.reduceToNat] at ho4; rw [← Ny335.out] at ho4)); have n0_ := Aside0.mk (Kd.R_lower ho4 (below_size (by repeat (first | (with_reducible first | exact HB.out | apply below_alloc | apply pw_below_drewN | apply below_drew1) | exact HB.out)))); have n1_ := Aside0.mk (below_step (by repeat (first | (with_reducible first | exact HB.out | apply below_alloc | apply pw_below_drewN | apply below_drew1) | exact HB.out)) hb); clear HB; have HO337 := n0_; have HB := n1_; clear n0_ n1_; clear hb ho4) | ((with_reducible refine gate_builtin (b := .append) (xs := #[.tmp 3, .tmp 4]) rfl ?_); at_builtin; refine Kd.R_append_rows k109 (w0 := w) w.heap.size rfl (.tmp 3) (.tmp 4) 37 109 (.agg #[(.int .i64 0), (.int .i64 0)]) 16 rfl Try.underlying37 info109 rfl (by decide) (by omega) v336 y335 l0 _ _ _ (fun _ => True) (fun _ => False) rfl rfl ?aO ?aR (fun _ _ h => h) (fun _ h => h.elim) ?aF ?aB ?aS ?aL ?_; (case aR => repeat (first | exact (Kd.C_below HR0.out HB.out) | (with_reducible refine Kd.C_alloc ?_ _) | (with_reducible refine Kd.C_drewN ?_ _) | (with_reducible refine Kd.C_drew ?_))); (case aB => exact (by repeat (first | (with_reducible first | exact HB.out | apply below_alloc | apply pw_below_drewN | apply below_drew1) | exact HB.out))); (case aF => exact (fun _ _ => trivial)); (case aO => exact (by (with_reducible repeat (first | apply Kd.R_alloc | apply Kd.R_drewN | apply Kd.R_drew)); exact HO337.out)); (case aS => exact (below_size (by repeat (first | (with_reducible first | exact HB.out | apply below_alloc | apply pw_below_drewN | apply below_drew1) | exact HB.out)))); (case aL => have := LMc2.out; omega); intro v339 w5 ho hb hg hat; rw [← Ny338.out] at ho; have n0_ := Aside0.mk (hb); have n1_ := Aside0.mk (ho); clear HB; clear HO337; have HB := n0_; have HO340 := n1_; clear n0_ n1_; clear ho hb hg hat))
    go_ret
    exact ⟨_, by first | rfl | (simp [errW_none, errW_some] <;> rfl) | (simp [*, errW_none, errW_some] <;> rfl), by (with_reducible repeat (first | apply Kd.R_alloc | apply Kd.R_drewN | apply Kd.R_drew)); exact HO340.out, by repeat (first | (with_reducible first | exact HB.out | apply below_alloc | apply pw_below_drewN | apply below_drew1) | exact HB.out)⟩
  · rw [if_neg c2] at H
    exact absurd H (by simp)

end Go.Proofs.Ytiophiipmgpaeaa.F

-- Written for this claim by the kit's print.py out of the translation, called by wip/tools/fprint.py. Lean checks it.
namespace Go.Proofs.Ytiophiipmgpaeaa.F
open Go.RowKit Go.Proofs.YtiophiipmgpaeaaW.PrintWords Go.Proofs.YtiophiipmgpaeaaW.PrintLast Go.Proofs.YtiophiipmgpaeaaW.PrintMore
attribute [local go_sem] max2_int min2_int max_two min_two max_three min_three max_four min_four   -- for this text's walks alone
set_option linter.unusedVariables false
set_option linter.unusedSimpArgs false

/-! ### spec_GapsOf: function 25 -/
def spec_GapsOf.l0 : Nat → List (S109) → List Int → Int → Option (List Int)
  | 0, _, _, _ => none
  | k + 1, x0, x3, x4 => if x4 < (x0.length : Int) then ((spec_IsPerformance.f k x0).bind fun t198 => (if t198 = true then (if 0 ≤ x4 then (if 0 ≤ (wrap64 (x4 - 1)) then (if (wrap64 (x4 - 1)) < (x0.length : Int) then (if x3.length < 17592186044416 then (spec_GapsOf.l0 k x0 (x3 ++ [wrap64 (((rd_T109 x0 x4).f0) - ((rd_T109 x0 (wrap64 (x4 - 1))).f0))]) (wrap64 (x4 + 1))) else (none)) else (none)) else (none)) else (none)) else (some x3))) else (some x3)
def spec_GapsOf.f (k : Nat) (l0 : List (S109)) : Option (List Int) := spec_GapsOf.l0 k l0 (([] : List Int)) 1
theorem spec_GapsOf.mono_l : ∀ k, (∀ y0 y1 y2, LeO (spec_GapsOf.l0 k y0 y1 y2) (spec_GapsOf.l0 (k + 1) y0 y1 y2))
  | 0 => fun _ _ _ r h => by simp [spec_GapsOf.l0] at h
  | k + 1 => by
    have ih0 := spec_GapsOf.mono_l k
    · intro y0 y1 y2
      unfold spec_GapsOf.l0
      repeat' first
      | (with_reducible exact ih0 _ _ _)
      | (with_reducible exact spec_IsPerformance.mono _ _)
      | (with_reducible exact LeO.refl _)
      | (with_reducible exact LeO.none _)
      | (with_reducible refine LeO.ite ?_ ?_)
      | (with_reducible refine LeO.bind ?_ (fun _ => ?_))
      | exact ih0 _ _ _
      | exact spec_IsPerformance.mono _ _
      | exact LeO.none _
      | refine LeO.ite ?_ ?_
      | refine LeO.bind ?_ (fun _ => ?_)
theorem spec_GapsOf.mono : ∀ a0 k, LeO (spec_GapsOf.f k a0) (spec_GapsOf.f (k + 1) a0) := by
  intro a0 k
  have ih0 := spec_GapsOf.mono_l k
  unfold spec_GapsOf.f
  repeat' first
      | (with_reducible exact ih0 _ _ _)
      | (with_reducible exact spec_IsPerformance.mono _ _)
      | (with_reducible exact LeO.refl _)
      | (with_reducible exact LeO.none _)
      | (with_reducible refine LeO.ite ?_ ?_)
      | (with_reducible refine LeO.bind ?_ (fun _ => ?_))
      | exact ih0 _ _ _
      | exact spec_IsPerformance.mono _ _
      | exact LeO.none _
      | refine LeO.ite ?_ ?_
      | refine LeO.bind ?_ (fun _ => ?_)
def spec_GapsOf.T5 : Bool × List (List Nat × List Nat) := (true, [([], []), ([], []), ([], []), ([1, 2], [1, 2]), ([3], [3]), ([4], [4]), ([], []), ([], []), ([7], [7]), ([6, 8], [6, 8]), ([9], [9]), ([10], [10]), ([5, 11], [5, 11]), ([12], [12]), ([0, 13], [0, 13]), ([14, 14, 0, 1, 2, 3, 4, 5, 6, 7, 8, 9, 10, 11, 12, 13, 14], [0, 14])])
def spec_GapsOf.B5 : List Nat := [0, 0, 0, 6, 14, 30, 0, 0, 128, 448, 960, 1984, 4094, 8190, 16383, 32767]
theorem spec_GapsOf.tab5 : rtab .any (opsOf Try.f25 5) = spec_GapsOf.T5 := by kernel_rfl
theorem spec_GapsOf.bits5 : waitsOk spec_GapsOf.T5.2 spec_GapsOf.B5 = true := by kernel_rfl
set_option maxHeartbeats 8000000 in
set_option maxRecDepth 100000 in
theorem spec_GapsOf.calls (k : Nat) (A0 : Option Addr) (c0 : Nat) (l0 : List (S109)) (r : List Int) (w : World) (hr0 : Kd.C k109 w A0 l0.length l0) (hc0 : l0.length ≤ c0) (h : spec_GapsOf.f k l0 = some r) :
    Calls Try.prog 25 #[.slice A0 l0.length c0] w fun e w' => ∃ v0_ : Value, e = .returned (v0_) ∧ Kd.R (Kd.int .i64) 3 w' w.heap.size (fun _ => True) v0_ r ∧ Below w.heap.size w w' := by
  have HR0 := Aside0.mk hr0
  have HC0 := Aside0.mk hc0
  clear hr0 hc0
  have HB := Aside0.mk (Below.refl w.heap.size w)
  have H : (spec_GapsOf.l0 k l0 (([] : List Int)) 1) = some r := h
  clear h
  obtain ⟨y195, hy195⟩ : ∃ y_ : List Int, y_ = (([] : List Int)) := ⟨_, rfl⟩
  replace H : (spec_GapsOf.l0 k l0 y195 1) = some r := by first | (rw [hy195]; with_reducible exact H) | (have H2_ := (Option.bind_some _ _).symm.trans H; rw [hy195]; with_reducible exact H2_) | (have H2_ := (Option.bind_some _ _).symm.trans H; with_reducible exact H2_) | with_reducible exact H | (rw [hy195]; exact H) | exact H
  have Ny195 := Aside0.mk hy195
  clear hy195
  have H' := Aside0.mk H
  clear H
  go_enter Try.func25, Try.ntmps25
  go_wp2_with (first | ((with_reducible refine gate_dst (N := 5) rfl ?_); refine Kd.R_lit (Kd.int .i64) _ 3 ?hg (N := 5) ?hd (xs := ([] : List Int)) (inner := []) (ok := fun _ => True) (okp := fun _ => True) ?hr ?hp (fun _ hk => hk) trivial (Below.refl _ _) (Nat.le_refl _) (by simp) ?_; (case hd => rfl); (case hg => rfl); (case hr => first | (go_simp; done) | (go_simp; rfl)); (case hp => exact (Reps.none _ _)); intro v196 w2 ho3 hb hg_ hnew_; clear hg_ hnew_; (first | rw [← Ny195.out] at ho3 | (simp only [Int.reduceToNat] at ho3; rw [← Ny195.out] at ho3)); have n0_ := Aside0.mk (Kd.R_lower ho3 (below_size (by repeat (first | (with_reducible first | exact HB.out | apply below_alloc | apply pw_below_drewN | apply below_drew1) | exact HB.out)))); have n1_ := Aside0.mk (below_step (by repeat (first | (with_reducible first | exact HB.out | apply below_alloc | apply pw_below_drewN | apply below_drew1) | exact HB.out)) hb); clear HB; have HO197 := n0_; have HB := n1_; clear n0_ n1_; clear hb ho3))
  go_loopg [3, 4] k (fun kq v3 v4 w' => ∃ (x3_1 : List Int) (x4_1 : Int), v4 = .int .i64 x4_1 ∧ Aside0 (spec_GapsOf.l0 kq l0 x3_1 x4_1 = some r) ∧ Aside0 (kq ≤ k) ∧ Aside0 (Kd.R (Kd.int .i64) 3 w' w.heap.size (fun _ => True) v3 x3_1) ∧ Aside0 (Below w.heap.size w w'))
  case atStart => exact ⟨(y195), (1), (by first | rfl | (simp; done) | (simp [*]; done)), H', ⟨Nat.le_refl _⟩, ⟨by (with_reducible repeat (first | apply Kd.R_alloc | apply Kd.R_drewN | apply Kd.R_drew)); exact HO197.out⟩, ⟨by repeat (first | (with_reducible first | exact HB.out | apply below_alloc | apply pw_below_drewN | apply below_drew1) | exact HB.out)⟩⟩
  case round =>
    clear H'
    try clear c2
    try clear p2
    obtain ⟨x3_1, x4_1, rfl, HA, HK1, HO_3, HB⟩ := hrel
    cases gk with
    | zero => exact absurd HA.out (by simp [spec_GapsOf.l0])
    | succ k1 =>
      have H := HA.out
      clear HA
      simp only [spec_GapsOf.l0] at H
      by_cases c4 : x4_1 < (l0.length : Int)
      · rw [if_pos c4] at H
        have c4b0 : decide (x4_1 < (l0.length : Int)) = true := decide_eq_true c4
        clear c4
        replace H := Option.bind_eq_some_iff.mp H
        obtain ⟨t198, A50, H⟩ := H
        replace H : (if t198 = true then (if 0 ≤ x4_1 then (if 0 ≤ (wrap64 (x4_1 - 1)) then (if (wrap64 (x4_1 - 1)) < (l0.length : Int) then (if x3_1.length < 17592186044416 then (spec_GapsOf.l0 k1 l0 (x3_1 ++ [wrap64 (((rd_T109 l0 x4_1).f0) - ((rd_T109 l0 (wrap64 (x4_1 - 1))).f0))]) (wrap64 (x4_1 + 1))) else (none)) else (none)) else (none)) else (none)) else (some x3_1)) = some r := H
        have A5 := Aside0.mk A50
        clear A50
        by_cases c6 : t198 = true
        · subst c6
          have H1 : (if 0 ≤ x4_1 then (if 0 ≤ (wrap64 (x4_1 - 1)) then (if (wrap64 (x4_1 - 1)) < (l0.length : Int) then (if x3_1.length < 17592186044416 then (spec_GapsOf.l0 k1 l0 (x3_1 ++ [wrap64 (((rd_T109 l0 x4_1).f0) - ((rd_T109 l0 (wrap64 (x4_1 - 1))).f0))]) (wrap64 (x4_1 + 1))) else (none)) else (none)) else (none)) else (none)) = some r := by rw [if_pos rfl] at H; exact H
          clear H
          have H := H1
          clear H1
          by_cases c7 : 0 ≤ x4_1
          · rw [if_pos c7] at H
            have c7b0 : decide (0 ≤ x4_1) = true := decide_eq_true c7
            clear c7
            obtain ⟨ji8, hji8⟩ : ∃ j_ : Int, (wrap64 (x4_1 - 1)) = j_ := ⟨_, rfl⟩
            replace H : (if 0 ≤ (ji8) then (if (ji8) < (l0.length : Int) then (if x3_1.length < 17592186044416 then (spec_GapsOf.l0 k1 l0 (x3_1 ++ [wrap64 (((rd_T109 l0 x4_1).f0) - ((rd_T109 l0 (ji8)).f0))]) (wrap64 (x4_1 + 1))) else (none)) else (none)) else (none)) = some r := by first | (rw [hji8] at H; exact H) | (simp only [hji8] at H ⊢; exact H)
            (try rw [hji8] at A5)
            have hji8w : (IntKind.i64.wrap (x4_1 - 1)) = ji8 := (i64_w _).trans hji8
            by_cases c9 : 0 ≤ (ji8)
            · rw [if_pos c9] at H
              have c9b0 : decide (0 ≤ (ji8)) = true := decide_eq_true c9
              clear c9
              by_cases c10 : (ji8) < (l0.length : Int)
              · rw [if_pos c10] at H
                have c10b0 : decide ((ji8) < (l0.length : Int)) = true := decide_eq_true c10
                clear c10
                by_cases c11 : x3_1.length < 17592186044416
                · rw [if_pos c11] at H
                  have LMc11 := Aside0.mk c11
                  clear c11
                  obtain ⟨y201, hy201⟩ : ∃ y_ : List Int, y_ = (x3_1 ++ [wrap64 (((rd_T109 l0 x4_1).f0) - ((rd_T109 l0 (ji8)).f0))]) := ⟨_, rfl⟩
                  replace H : (spec_GapsOf.l0 k1 l0 y201 (wrap64 (x4_1 + 1))) = some r := by first | (rw [hy201]; with_reducible exact H) | (have H2_ := (Option.bind_some _ _).symm.trans H; rw [hy201]; with_reducible exact H2_) | (have H2_ := (Option.bind_some _ _).symm.trans H; with_reducible exact H2_) | with_reducible exact H | (rw [hy201]; exact H) | exact H
                  have Ny201 := Aside0.mk hy201
                  clear hy201
                  have H' := Aside0.mk H
                  clear H
                  try go_wp2_with (first | (go_at_call 84; (with_reducible refine (spec_IsPerformance.calls k1 _ _ l0 true _ ?side1 ?side2 A5.out).mono ?_); (case side1 => repeat (first | exact (Kd.C_below HR0.out HB.out) | (with_reducible refine Kd.C_alloc ?_ _) | (with_reducible refine Kd.C_drewN ?_ _) | (with_reducible refine Kd.C_drew ?_))); (case side2 => exact HC0.out); rintro e w12 ⟨rfl, hb⟩; have n0_ := Aside0.mk (Kd.R_below (by (with_reducible repeat (first | apply Kd.R_alloc | apply Kd.R_drewN | apply Kd.R_drew)); exact HO_3.out) hb); have n1_ := Aside0.mk (below_step (by repeat (first | (with_reducible first | exact HB.out | apply below_alloc | apply pw_below_drewN | apply below_drew1) | exact HB.out)) hb); clear HO_3; clear HB; have HO_3 := n0_; have HB := n1_; clear n0_ n1_; (try clear hb); (try clear hb2); (try clear hk); (try clear hi)))
                  have n0_ := Aside0.mk (Kd.R_drew HO_3.out)
                  have n1_ := Aside0.mk (below_drew1 HB.out)
                  clear HO_3
                  clear HB
                  have HO_3 := n0_
                  have HB := n1_
                  clear n0_ n1_
                  have p199 : 0 ≤ (x4_1 : Int) := of_decide_eq_true (by first | (with_reducible assumption) | assumption)
                  have q199 : x4_1 < (l0.length : Int) := of_decide_eq_true (by first | (with_reducible assumption) | assumption)
                  obtain ⟨ad199, e199, hx199_0, hx199_1⟩ := at_T109 HR0.out x4_1 p199 q199
                  have hw199_1 := hx199_1
                  have hw199_0 := hx199_0
                  cases e199
                  replace hx199_0 := (HB.out.cell (World.block_lt_of_cell? w _ hx199_0)).trans hx199_0
                  replace hx199_1 := (HB.out.cell (World.block_lt_of_cell? w _ hx199_1)).trans hx199_1
                  replace p199 := eq_true p199
                  replace q199 := eq_true q199
                  have p200 : 0 ≤ ((ji8) : Int) := of_decide_eq_true (by first | (with_reducible assumption) | assumption)
                  have q200 : (ji8) < (l0.length : Int) := of_decide_eq_true (by first | (with_reducible assumption) | assumption)
                  obtain ⟨ad200, e200, hx200_0, hx200_1⟩ := at_T109 HR0.out (ji8) p200 q200
                  have hw200_1 := hx200_1
                  have hw200_0 := hx200_0
                  obtain rfl : ad199 = ad200 := (by injection e200)
                  replace hx200_0 := (HB.out.cell (World.block_lt_of_cell? w _ hx200_0)).trans hx200_0
                  replace hx200_1 := (HB.out.cell (World.block_lt_of_cell? w _ hx200_1)).trans hx200_1
                  replace p200 := eq_true p200
                  replace q200 := eq_true q200
                  refine start_ (n := 16) (S := fun w' => w'.cell? (ad199.add ((x4_1).toNat * 2)) = some (.int .i64 ((rd_T109 l0 x4_1).f0)) ∧ w'.cell? ⟨(ad199.add ((x4_1).toNat * 2)).block, (ad199.add ((x4_1).toNat * 2)).off + 1, none⟩ = some (.int .i64 ((rd_T109 l0 x4_1).f1)) ∧ w'.cell? (ad199.add (((ji8)).toNat * 2)) = some (.int .i64 ((rd_T109 l0 (ji8)).f0)) ∧ w'.cell? ⟨(ad199.add (((ji8)).toNat * 2)).block, (ad199.add (((ji8)).toNat * 2)).off + 1, none⟩ = some (.int .i64 ((rd_T109 l0 (ji8)).f1))) (ds := []) #[false, false, false, false, false, false, false, false, false, false, false, false, false, false, false, false] (by kernel_rfl) rfl rfl ⟨((HB.out.cell (World.block_lt_of_cell? w _ hw199_0)).trans hw199_0), ((HB.out.cell (World.block_lt_of_cell? w _ hw199_1)).trans hw199_1), ((HB.out.cell (World.block_lt_of_cell? w _ hw200_0)).trans hw200_0), ((HB.out.cell (World.block_lt_of_cell? w _ hw200_1)).trans hw200_1)⟩ (fun hHeld => ?_); refine with_tabW spec_GapsOf.tab5 spec_GapsOf.bits5 (fun HT_ HW_ => ?_)
                  generalize w12.drew = w13 at HO_3 HB hx199_0 hx199_1 hx200_0 hx200_1 hHeld ⊢
                  refine pure_ (i := 0) (N := some 16) (v := ?_) (a' := ?_) #[true, false, false, false, false, false, false, false, false, false, false, false, false, false, false, false] rfl rfl (any_of HT_.out (by kernel_rfl)) (fun _ _ _ h => h) (Or.inl ⟨by rfl, ?_⟩) ?_ ?_
                  rotate_left
                  · intro w'
                    go_simp
                    with_reducible rfl
                  rotate_left
                  · simp only [Act.put, List.setIfInBounds_toArray, List.set_cons_zero, List.set_cons_succ, i64_w, i32_w]
                    rfl
                  refine pure_ (i := 1) (N := some 17) (v := ?_) (a' := ?_) #[true, true, false, false, false, false, false, false, false, false, false, false, false, false, false, false] rfl rfl (any_of HT_.out (by kernel_rfl)) (fun _ _ _ h => h) (Or.inl ⟨by rfl, ?_⟩) ?_ ?_
                  rotate_left
                  · intro w'
                    go_simp
                    with_reducible rfl
                  rotate_left
                  · simp only [Act.put, List.setIfInBounds_toArray, List.set_cons_zero, List.set_cons_succ, i64_w, i32_w]
                    rfl
                  refine pure_ (i := 2) (N := some 18) (v := ?_) (a' := ?_) #[true, true, true, false, false, false, false, false, false, false, false, false, false, false, false, false] rfl rfl (any_of HT_.out (by kernel_rfl)) (fun _ _ _ h => h) (Or.inl ⟨by rfl, ?_⟩) ?_ ?_
                  rotate_left
                  · intro w'
                    go_simp
                    with_reducible rfl
                  rotate_left
                  · simp only [Act.put, List.setIfInBounds_toArray, List.set_cons_zero, List.set_cons_succ, i64_w, i32_w]
                    rfl
                  refine pure_ (i := 3) (N := some 19) (v := ?_) (a' := ?_) #[true, true, true, true, false, false, false, false, false, false, false, false, false, false, false, false] rfl rfl (any_of HT_.out (by kernel_rfl)) (fun _ _ _ h => h) (Or.inl ⟨by rfl, ?_⟩) ?_ ?_
                  rotate_left
                  · intro w'
                    go_simp
                    with_reducible rfl
                  rotate_left
                  · simp only [Act.put, List.setIfInBounds_toArray, List.set_cons_zero, List.set_cons_succ, i64_w, i32_w]
                    rfl
                  refine pure_ (i := 4) (N := some 20) (v := ?_) (a' := ?_) #[true, true, true, true, true, false, false, false, false, false, false, false, false, false, false, false] rfl rfl (any_of HT_.out (by kernel_rfl)) (fun _ _ _ h => h) (Or.inl ⟨by rfl, ?_⟩) ?_ ?_
                  rotate_left
                  · intro w'
                    go_simp
                    with_reducible rfl
                  rotate_left
                  · simp only [Act.put, List.setIfInBounds_toArray, List.set_cons_zero, List.set_cons_succ, i64_w, i32_w]
                    rfl
                  refine pure_ (i := 6) (N := some 22) (v := ?_) (a' := ?_) #[true, true, true, true, true, false, true, false, false, false, false, false, false, false, false, false] rfl rfl (any_of HT_.out (by kernel_rfl)) (fun _ _ _ h => h) (Or.inl ⟨by rfl, ?_⟩) ?_ ?_
                  rotate_left
                  · intro w'
                    go_simp
                    with_reducible rfl
                  rotate_left
                  · simp only [Act.put, List.setIfInBounds_toArray, List.set_cons_zero, List.set_cons_succ, i64_w, i32_w]
                    rfl
                  refine pure_ (i := 7) (N := some 23) (v := ?_) (a' := ?_) #[true, true, true, true, true, false, true, true, false, false, false, false, false, false, false, false] rfl rfl (any_of HT_.out (by kernel_rfl)) (fun _ _ _ h => h) (Or.inl ⟨by rfl, ?_⟩) ?_ ?_
                  rotate_left
                  · intro w'
                    go_simp
                    with_reducible rfl
                  rotate_left
                  · simp only [Act.put, List.setIfInBounds_toArray, List.set_cons_zero, List.set_cons_succ, i64_w, i32_w]
                    rfl
                  refine pure_ (i := 8) (N := some 24) (v := ?_) (a' := ?_) #[true, true, true, true, true, false, true, true, true, false, false, false, false, false, false, false] rfl rfl (any_of HT_.out (by kernel_rfl)) (fun _ _ _ h => h) (Or.inl ⟨by rfl, ?_⟩) ?_ ?_
                  rotate_left
                  · intro w'
                    go_simp
                    with_reducible rfl
                  rotate_left
                  · simp only [Act.put, List.setIfInBounds_toArray, List.set_cons_zero, List.set_cons_succ, i64_w, i32_w]
                    rfl
                  refine pure_ (i := 9) (N := some 25) (v := ?_) (a' := ?_) #[true, true, true, true, true, false, true, true, true, true, false, false, false, false, false, false] rfl rfl (any_of HT_.out (by kernel_rfl)) (fun _ _ _ h => h) (Or.inl ⟨by rfl, ?_⟩) ?_ ?_
                  rotate_left
                  · intro w'
                    go_simp
                    with_reducible rfl
                  rotate_left
                  · simp only [Act.put, List.setIfInBounds_toArray, List.set_cons_zero, List.set_cons_succ, i64_w, i32_w]
                    rfl
                  refine pure_ (i := 10) (N := some 26) (v := ?_) (a' := ?_) #[true, true, true, true, true, false, true, true, true, true, true, false, false, false, false, false] rfl rfl (any_of HT_.out (by kernel_rfl)) (fun _ _ _ h => h) (Or.inl ⟨by rfl, ?_⟩) ?_ ?_
                  rotate_left
                  · intro w'
                    go_simp
                    with_reducible rfl
                  rotate_left
                  · simp only [Act.put, List.setIfInBounds_toArray, List.set_cons_zero, List.set_cons_succ, i64_w, i32_w]
                    rfl
                  refine take_ (i := 5) (N := some 21) (v := ?_) (a' := ?_) #[true, true, true, true, true, true, true, true, true, true, true, false, false, false, false, false] rfl rfl (take_ofW HT_.out HW_.out (by kernel_rfl)) (fun _ _ _ h => h) (Or.inl ⟨by rfl, ?_⟩) hHeld ?_ ?_
                  rotate_left
                  · rintro w' ⟨s0, s1, s2, s3⟩
                    go_simp
                    with_reducible rfl
                  rotate_left
                  · simp only [Act.put, List.setIfInBounds_toArray, List.set_cons_zero, List.set_cons_succ, i64_w, i32_w]
                    rfl
                  refine take_ (i := 11) (N := some 27) (v := ?_) (a' := ?_) #[true, true, true, true, true, true, true, true, true, true, true, true, false, false, false, false] rfl rfl (take_ofW HT_.out HW_.out (by kernel_rfl)) (fun _ _ _ h => h) (Or.inl ⟨by rfl, ?_⟩) hHeld ?_ ?_
                  rotate_left
                  · rintro w' ⟨s0, s1, s2, s3⟩
                    go_simp
                    with_reducible rfl
                  rotate_left
                  · simp only [Act.put, List.setIfInBounds_toArray, List.set_cons_zero, List.set_cons_succ, i64_w, i32_w]
                    rfl
                  refine pure_ (i := 12) (N := some 28) (v := ?_) (a' := ?_) #[true, true, true, true, true, true, true, true, true, true, true, true, true, false, false, false] rfl rfl (any_of HT_.out (by kernel_rfl)) (fun _ _ _ h => h) (Or.inl ⟨by rfl, ?_⟩) ?_ ?_
                  rotate_left
                  · intro w'
                    go_simp
                    with_reducible rfl
                  rotate_left
                  · simp only [Act.put, List.setIfInBounds_toArray, List.set_cons_zero, List.set_cons_succ, i64_w, i32_w]
                    rfl
                  refine one_ (i := 13) (N := some 29) #[true, true, true, true, true, true, true, true, true, true, true, true, true, true, false, false] rfl rfl (one_of HT_.out (by kernel_rfl)) (by decide) (fun K hK => ?_)
                  refine value_ (w1 := ?_) (v := ?_) (by rfl) rfl ?_ ?_
                  rotate_left 2
                  · go_simp
                    constructor
                    · rfl
                    · rfl
                  refine hK.out _ _ ⟨(World.cell?_alloc_lt _ _ _ (World.block_lt_of_cell? _ _ (((HB.out.cell (World.block_lt_of_cell? w _ hw199_0)).trans hw199_0)))).trans (((HB.out.cell (World.block_lt_of_cell? w _ hw199_0)).trans hw199_0)), (World.cell?_alloc_lt _ _ _ (World.block_lt_of_cell? _ _ (((HB.out.cell (World.block_lt_of_cell? w _ hw199_1)).trans hw199_1)))).trans (((HB.out.cell (World.block_lt_of_cell? w _ hw199_1)).trans hw199_1)), (World.cell?_alloc_lt _ _ _ (World.block_lt_of_cell? _ _ (((HB.out.cell (World.block_lt_of_cell? w _ hw200_0)).trans hw200_0)))).trans (((HB.out.cell (World.block_lt_of_cell? w _ hw200_0)).trans hw200_0)), (World.cell?_alloc_lt _ _ _ (World.block_lt_of_cell? _ _ (((HB.out.cell (World.block_lt_of_cell? w _ hw200_1)).trans hw200_1)))).trans (((HB.out.cell (World.block_lt_of_cell? w _ hw200_1)).trans hw200_1))⟩ (fun hHeld => ?_)
                  clear hK K
                  refine norm_ (a' := ?_) ?_ ?_
                  rotate_left
                  · show Act.put _ (some 29) _ = _
                    simp only [Act.put, List.setIfInBounds_toArray, List.set_cons_zero, List.set_cons_succ, i64_w, i32_w]
                    rfl
                  refine one_ (i := 14) (N := some 30) #[true, true, true, true, true, true, true, true, true, true, true, true, true, true, true, false] rfl rfl (one_of HT_.out (by kernel_rfl)) (by decide) (fun K hK => ?_)
                  refine Kd.R_append_step (Kd.int .i64) (w0 := w) w.heap.size (by rfl) (.tmp 16) (.tmp 29) 29 3 (.int .i64 0) 8 rfl Try.underlying29 info3 rfl (by decide) (by omega) u3 x3_1 (wrap64 (((rd_T109 l0 x4_1).f0) - ((rd_T109 l0 (ji8)).f0))) [.int .i64 (wrap64 (((rd_T109 l0 x4_1).f0) - ((rd_T109 l0 (ji8)).f0)))] (fun _ => True) (fun _ => False) rfl rfl ?aP (fun _ hk => hk.elim) ?aF ?aO ?aB ?aS ?aL ?_
                  (case aP => exact rfl)
                  (case aB => exact (by repeat (first | (with_reducible first | exact HB.out | apply below_alloc | apply pw_below_drewN | apply below_drew1) | exact HB.out)))
                  (case aF => exact (fun _ _ => trivial))
                  (case aO => exact (by (with_reducible repeat (first | apply Kd.R_alloc | apply Kd.R_drewN | apply Kd.R_drew)); exact HO_3.out))
                  (case aS => exact (below_size (by repeat (first | (with_reducible first | exact HB.out | apply below_alloc | apply pw_below_drewN | apply below_drew1) | exact HB.out))))
                  (case aL => have := LMc11.out; omega)
                  intro v202 w14 ho hb hg hat
                  rw [← Ny201.out] at ho
                  have n0_ := Aside0.mk (hb)
                  have n1_ := Aside0.mk (ho)
                  clear HB
                  clear HO_3
                  have HB := n0_
                  have HO203 := n1_
                  clear n0_ n1_
                  clear ho hb hg hat
                  refine hK.out _ _ ⟨((HB.out.cell (World.block_lt_of_cell? w _ hw199_0)).trans hw199_0), ((HB.out.cell (World.block_lt_of_cell? w _ hw199_1)).trans hw199_1), ((HB.out.cell (World.block_lt_of_cell? w _ hw200_0)).trans hw200_0), ((HB.out.cell (World.block_lt_of_cell? w _ hw200_1)).trans hw200_1)⟩ (fun hHeld => ?_)
                  clear hK K
                  refine norm_ (a' := ?_) ?_ ?_
                  rotate_left
                  · show Act.put _ (some 30) _ = _
                    simp only [Act.put, List.setIfInBounds_toArray, List.set_cons_zero, List.set_cons_succ, i64_w, i32_w]
                    rfl
                  refine pure_ (i := 15) (N := some 3) (v := ?_) (a' := ?_) #[true, true, true, true, true, true, true, true, true, true, true, true, true, true, true, true] rfl rfl (any_of HT_.out (by kernel_rfl)) (fun _ _ _ h => h) (Or.inl ⟨by rfl, ?_⟩) ?_ ?_
                  rotate_left
                  · intro w'
                    go_simp
                    with_reducible rfl
                  rotate_left
                  · simp only [Act.put, List.setIfInBounds_toArray, List.set_cons_zero, List.set_cons_succ, i64_w, i32_w]
                    rfl
                  refine done_ (done_of HT_.out (by kernel_rfl)) ?_
                  try go_wp2
                  go_roundg k1
                  case measure => have := HK1.out; omega
                  case rel => exact ⟨(y201), (wrap64 (x4_1 + 1)), (by first | rfl | (simp; done) | (simp [*]; done)), H', ⟨by have := HK1.out; omega⟩, ⟨by (with_reducible repeat (first | apply Kd.R_alloc | apply Kd.R_drewN | apply Kd.R_drew)); exact HO203.out⟩, ⟨by repeat (first | (with_reducible first | exact HB.out | apply below_alloc | apply pw_below_drewN | apply below_drew1) | exact HB.out)⟩⟩
                · rw [if_neg c11] at H
                  exact absurd H (by simp)
              · rw [if_neg c10] at H
                exact absurd H (by simp)
            · rw [if_neg c9] at H
              exact absurd H (by simp)
          · rw [if_neg c7] at H
            exact absurd H (by simp)
        · replace c6 := Bool.eq_false_iff.mpr c6
          subst c6
          have H1 : (some x3_1) = some r := by rw [if_neg (show ¬ (false = true) by decide)] at H; exact H
          clear H
          have H := H1
          clear H1
          obtain rfl := Option.some.inj H
          go_wp2_with (first | (go_at_call 84; (with_reducible refine (spec_IsPerformance.calls k1 _ _ l0 false _ ?side1 ?side2 A5.out).mono ?_); (case side1 => repeat (first | exact (Kd.C_below HR0.out HB.out) | (with_reducible refine Kd.C_alloc ?_ _) | (with_reducible refine Kd.C_drewN ?_ _) | (with_reducible refine Kd.C_drew ?_))); (case side2 => exact HC0.out); rintro e w15 ⟨rfl, hb⟩; have n0_ := Aside0.mk (Kd.R_below (by (with_reducible repeat (first | apply Kd.R_alloc | apply Kd.R_drewN | apply Kd.R_drew)); exact HO_3.out) hb); have n1_ := Aside0.mk (below_step (by repeat (first | (with_reducible first | exact HB.out | apply below_alloc | apply pw_below_drewN | apply below_drew1) | exact HB.out)) hb); clear HO_3; clear HB; have HO_3 := n0_; have HB := n1_; clear n0_ n1_; (try clear hb); (try clear hb2); (try clear hk); (try clear hi)))
          go_ret
          exact ⟨_, by first | rfl | (simp [errW_none, errW_some] <;> rfl) | (simp [*, errW_none, errW_some] <;> rfl), by (with_reducible repeat (first | apply Kd.R_alloc | apply Kd.R_drewN | apply Kd.R_drew)); exact HO_3.out, by repeat (first | (with_reducible first | exact HB.out | apply below_alloc | apply pw_below_drewN | apply below_drew1) | exact HB.out)⟩
      · rw [if_neg c4] at H
        have c4b0 : decide (x4_1 < (l0.length : Int)) = false := decide_eq_false c4
        clear c4
        obtain rfl := Option.some.inj H
        go_wp2
        go_ret
        exact ⟨_, by first | rfl | (simp [errW_none, errW_some] <;> rfl) | (simp [*, errW_none, errW_some] <;> rfl), by (with_reducible repeat (first | apply Kd.R_alloc | apply Kd.R_drewN | apply Kd.R_drew)); exact HO_3.out, by repeat (first | (with_reducible first | exact HB.out | apply below_alloc | apply pw_below_drewN | apply below_drew1) | exact HB.out)⟩

end Go.Proofs.Ytiophiipmgpaeaa.F

-- Written for this claim by the kit's print.py out of the translation, called by wip/tools/fprint.py. Lean checks it.
namespace Go.Proofs.Ytiophiipmgpaeaa.F
open Go.RowKit Go.Proofs.YtiophiipmgpaeaaW.PrintWords Go.Proofs.YtiophiipmgpaeaaW.PrintLast Go.Proofs.YtiophiipmgpaeaaW.PrintMore
attribute [local go_sem] max2_int min2_int max_two min_two max_three min_three max_four min_four   -- for this text's walks alone
set_option linter.unusedVariables false
set_option linter.unusedSimpArgs false

/-! ### impl_GapsOf: function 27 -/
def impl_GapsOf.l0 : Nat → List (S109) → List Int → Int → Option (List Int)
  | 0, _, _, _ => none
  | k + 1, x0, x3, x4 => if x4 < (x0.length : Int) then (if 0 ≤ x4 then (if 0 ≤ (wrap64 (x4 - 1)) then (if (wrap64 (x4 - 1)) < (x0.length : Int) then (if x3.length < 17592186044416 then (impl_GapsOf.l0 k x0 (x3 ++ [wrap64 (((rd_T109 x0 x4).f0) - ((rd_T109 x0 (wrap64 (x4 - 1))).f0))]) (wrap64 (x4 + 1))) else (none)) else (none)) else (none)) else (none)) else (some x3)
def impl_GapsOf.f (k : Nat) (l0 : List (S109)) : Option (List Int) := (some (([] : List Int) : List Int)).bind fun y221 => ((impl_IsPerformance.f k l0).bind fun t224 => (if t224 = true then (impl_GapsOf.l0 k l0 y221 1) else (some y221)))
theorem impl_GapsOf.mono_l : ∀ k, (∀ y0 y1 y2, LeO (impl_GapsOf.l0 k y0 y1 y2) (impl_GapsOf.l0 (k + 1) y0 y1 y2))
  | 0 => fun _ _ _ r h => by simp [impl_GapsOf.l0] at h
  | k + 1 => by
    have ih0 := impl_GapsOf.mono_l k
    · intro y0 y1 y2
      unfold impl_GapsOf.l0
      repeat' first
      | (with_reducible exact ih0 _ _ _)
      | (with_reducible exact impl_IsPerformance.mono _ _)
      | (with_reducible exact LeO.refl _)
      | (with_reducible exact LeO.none _)
      | (with_reducible refine LeO.ite ?_ ?_)
      | (with_reducible refine LeO.bind ?_ (fun _ => ?_))
      | exact ih0 _ _ _
      | exact impl_IsPerformance.mono _ _
      | exact LeO.none _
      | refine LeO.ite ?_ ?_
      | refine LeO.bind ?_ (fun _ => ?_)
theorem impl_GapsOf.mono : ∀ a0 k, LeO (impl_GapsOf.f k a0) (impl_GapsOf.f (k + 1) a0) := by
  intro a0 k
  have ih0 := impl_GapsOf.mono_l k
  unfold impl_GapsOf.f
  repeat' first
      | (with_reducible exact ih0 _ _ _)
      | (with_reducible exact impl_IsPerformance.mono _ _)
      | (with_reducible exact LeO.refl _)
      | (with_reducible exact LeO.none _)
      | (with_reducible refine LeO.ite ?_ ?_)
      | (with_reducible refine LeO.bind ?_ (fun _ => ?_))
      | exact ih0 _ _ _
      | exact impl_IsPerformance.mono _ _
      | exact LeO.none _
      | refine LeO.ite ?_ ?_
      | refine LeO.bind ?_ (fun _ => ?_)
def impl_GapsOf.T6 : Bool × List (List Nat × List Nat) := (true, [([], []), ([], []), ([], []), ([1, 2], [1, 2]), ([3], [3]), ([4], [4]), ([], []), ([], []), ([7], [7]), ([6, 8], [6, 8]), ([9], [9]), ([10], [10]), ([5, 11], [5, 11]), ([12], [12]), ([0, 13], [0, 13]), ([14, 14, 0, 1, 2, 3, 4, 5, 6, 7, 8, 9, 10, 11, 12, 13, 14], [0, 14])])
def impl_GapsOf.B6 : List Nat := [0, 0, 0, 6, 14, 30, 0, 0, 128, 448, 960, 1984, 4094, 8190, 16383, 32767]
theorem impl_GapsOf.tab6 : rtab .any (opsOf Try.f27 6) = impl_GapsOf.T6 := by kernel_rfl
theorem impl_GapsOf.bits6 : waitsOk impl_GapsOf.T6.2 impl_GapsOf.B6 = true := by kernel_rfl
set_option maxHeartbeats 8000000 in
set_option maxRecDepth 100000 in
theorem impl_GapsOf.calls (k : Nat) (A0 : Option Addr) (c0 : Nat) (l0 : List (S109)) (r : List Int) (w : World) (hr0 : Kd.C k109 w A0 l0.length l0) (hc0 : l0.length ≤ c0) (h : impl_GapsOf.f k l0 = some r) :
    Calls Try.prog 27 #[.slice A0 l0.length c0] w fun e w' => ∃ v0_ : Value, e = .returned (v0_) ∧ Kd.R (Kd.int .i64) 3 w' w.heap.size (fun _ => True) v0_ r ∧ Below w.heap.size w w' := by
  have HR0 := Aside0.mk hr0
  have HC0 := Aside0.mk hc0
  clear hr0 hc0
  have HB := Aside0.mk (Below.refl w.heap.size w)
  have H : ((some (([] : List Int) : List Int)).bind fun y221 => ((impl_IsPerformance.f k l0).bind fun t224 => (if t224 = true then (impl_GapsOf.l0 k l0 y221 1) else (some y221)))) = some r := h
  clear h
  obtain ⟨y221, hy221⟩ : ∃ y_ : List Int, y_ = (([] : List Int)) := ⟨_, rfl⟩
  replace H : ((impl_IsPerformance.f k l0).bind fun t224 => (if t224 = true then (impl_GapsOf.l0 k l0 y221 1) else (some y221))) = some r := by first | (rw [hy221]; with_reducible exact H) | (have H2_ := (Option.bind_some _ _).symm.trans H; rw [hy221]; with_reducible exact H2_) | (have H2_ := (Option.bind_some _ _).symm.trans H; with_reducible exact H2_) | with_reducible exact H | (rw [hy221]; exact H) | exact H
  have Ny221 := Aside0.mk hy221
  clear hy221
  replace H := Option.bind_eq_some_iff.mp H
  obtain ⟨t224, A20, H⟩ := H
  replace H : (if t224 = true then (impl_GapsOf.l0 k l0 y221 1) else (some y221)) = some r := H
  have A2 := Aside0.mk A20
  clear A20
  by_cases c3 : t224 = true
  · subst c3
    have H1 : (impl_GapsOf.l0 k l0 y221 1) = some r := by rw [if_pos rfl] at H; exact H
    clear H
    have H := H1
    clear H1
    have H' := Aside0.mk H
    clear H
    go_enter Try.func27, Try.ntmps27
    go_wp2_with (first | ((with_reducible refine gate_dst (N := 5) rfl ?_); refine Kd.R_lit (Kd.int .i64) _ 3 ?hg (N := 5) ?hd (xs := ([] : List Int)) (inner := []) (ok := fun _ => True) (okp := fun _ => True) ?hr ?hp (fun _ hk => hk) trivial (Below.refl _ _) (Nat.le_refl _) (by simp) ?_; (case hd => rfl); (case hg => rfl); (case hr => first | (go_simp; done) | (go_simp; rfl)); (case hp => exact (Reps.none _ _)); intro v222 w4 ho5 hb hg_ hnew_; clear hg_ hnew_; (first | rw [← Ny221.out] at ho5 | (simp only [Int.reduceToNat] at ho5; rw [← Ny221.out] at ho5)); have n0_ := Aside0.mk (Kd.R_lower ho5 (below_size (by repeat (first | (with_reducible first | exact HB.out | apply below_alloc | apply pw_below_drewN | apply below_drew1) | exact HB.out)))); have n1_ := Aside0.mk (below_step (by repeat (first | (with_reducible first | exact HB.out | apply below_alloc | apply pw_below_drewN | apply below_drew1) | exact HB.out)) hb); clear HB; have HO223 := n0_; have HB := n1_; clear n0_ n1_; clear hb ho5) | ((with_reducible refine gate_callee (f := 86) rfl ?_); refine goesL_ (some 7) rfl rfl Try.func86 (by kernel_rfl) rfl #[.slice A0 l0.length c0] rfl (by (try simp only [List.map_toArray, List.map_cons, List.map_nil]); first | done | rfl | (simp only [List.length_drop, List.length_take]; rfl)) ?_; (with_reducible refine (impl_IsPerformance.calls k _ _ l0 true _ ?side1 ?side2 A2.out).mono ?_); (case side1 => repeat (first | exact (Kd.C_below HR0.out HB.out) | (with_reducible refine Kd.C_alloc ?_ _) | (with_reducible refine Kd.C_drewN ?_ _) | (with_reducible refine Kd.C_drew ?_))); (case side2 => exact HC0.out); rintro e w6 ⟨rfl, hb⟩; refine ⟨_, rfl, ?_⟩; have n0_ := Aside0.mk (Kd.R_below (by (with_reducible repeat (first | apply Kd.R_alloc | apply Kd.R_drewN | apply Kd.R_drew)); exact HO223.out) hb); have n1_ := Aside0.mk (below_step (by repeat (first | (with_reducible first | exact HB.out | apply below_alloc | apply pw_below_drewN | apply below_drew1) | exact HB.out)) hb); clear HO223; clear HB; have HO223 := n0_; have HB := n1_; clear n0_ n1_; (try clear hb); (try clear hb2); (try clear hk); (try clear hi)))
    go_loopg [3, 4] k (fun kq v3 v4 w' => ∃ (x3_1 : List Int) (x4_1 : Int), v4 = .int .i64 x4_1 ∧ Aside0 (impl_GapsOf.l0 kq l0 x3_1 x4_1 = some r) ∧ Aside0 (kq ≤ k) ∧ Aside0 (Kd.R (Kd.int .i64) 3 w' w.heap.size (fun _ => True) v3 x3_1) ∧ Aside0 (Below w.heap.size w w'))
    case atStart => exact ⟨(y221), (1), (by first | rfl | (simp; done) | (simp [*]; done)), H', ⟨Nat.le_refl _⟩, ⟨by (with_reducible repeat (first | apply Kd.R_alloc | apply Kd.R_drewN | apply Kd.R_drew)); exact HO223.out⟩, ⟨by repeat (first | (with_reducible first | exact HB.out | apply below_alloc | apply pw_below_drewN | apply below_drew1) | exact HB.out)⟩⟩
    case round =>
      clear H'
      try clear c2
      try clear p2
      try clear c3
      obtain ⟨x3_1, x4_1, rfl, HA, HK1, HO_3, HB⟩ := hrel
      cases gk with
      | zero => exact absurd HA.out (by simp [impl_GapsOf.l0])
      | succ k1 =>
        have H := HA.out
        clear HA
        simp only [impl_GapsOf.l0] at H
        by_cases c7 : x4_1 < (l0.length : Int)
        · rw [if_pos c7] at H
          have c7b0 : decide (x4_1 < (l0.length : Int)) = true := decide_eq_true c7
          clear c7
          by_cases c8 : 0 ≤ x4_1
          · rw [if_pos c8] at H
            have c8b0 : decide (0 ≤ x4_1) = true := decide_eq_true c8
            clear c8
            obtain ⟨ji9, hji9⟩ : ∃ j_ : Int, (wrap64 (x4_1 - 1)) = j_ := ⟨_, rfl⟩
            replace H : (if 0 ≤ (ji9) then (if (ji9) < (l0.length : Int) then (if x3_1.length < 17592186044416 then (impl_GapsOf.l0 k1 l0 (x3_1 ++ [wrap64 (((rd_T109 l0 x4_1).f0) - ((rd_T109 l0 (ji9)).f0))]) (wrap64 (x4_1 + 1))) else (none)) else (none)) else (none)) = some r := by first | (rw [hji9] at H; exact H) | (simp only [hji9] at H ⊢; exact H)
            have hji9w : (IntKind.i64.wrap (x4_1 - 1)) = ji9 := (i64_w _).trans hji9
            by_cases c10 : 0 ≤ (ji9)
            · rw [if_pos c10] at H
              have c10b0 : decide (0 ≤ (ji9)) = true := decide_eq_true c10
              clear c10
              by_cases c11 : (ji9) < (l0.length : Int)
              · rw [if_pos c11] at H
                have c11b0 : decide ((ji9) < (l0.length : Int)) = true := decide_eq_true c11
                clear c11
                by_cases c12 : x3_1.length < 17592186044416
                · rw [if_pos c12] at H
                  have LMc12 := Aside0.mk c12
                  clear c12
                  obtain ⟨y227, hy227⟩ : ∃ y_ : List Int, y_ = (x3_1 ++ [wrap64 (((rd_T109 l0 x4_1).f0) - ((rd_T109 l0 (ji9)).f0))]) := ⟨_, rfl⟩
                  replace H : (impl_GapsOf.l0 k1 l0 y227 (wrap64 (x4_1 + 1))) = some r := by first | (rw [hy227]; with_reducible exact H) | (have H2_ := (Option.bind_some _ _).symm.trans H; rw [hy227]; with_reducible exact H2_) | (have H2_ := (Option.bind_some _ _).symm.trans H; with_reducible exact H2_) | with_reducible exact H | (rw [hy227]; exact H) | exact H
                  have Ny227 := Aside0.mk hy227
                  clear hy227
                  have H' := Aside0.mk H
                  clear H
                  try go_wp2
                  have n0_ := Aside0.mk (Kd.R_drew HO_3.out)
                  have n1_ := Aside0.mk (below_drew1 HB.out)
                  clear HO_3
                  clear HB
                  have HO_3 := n0_
                  have HB := n1_
                  clear n0_ n1_
                  have p225 : 0 ≤ (x4_1 : Int) := of_decide_eq_true (by first | (with_reducible assumption) | assumption)
                  have q225 : x4_1 < (l0.length : Int) := of_decide_eq_true (by first | (with_reducible assumption) | assumption)
                  obtain ⟨ad225, e225, hx225_0, hx225_1⟩ := at_T109 HR0.out x4_1 p225 q225
                  have hw225_1 := hx225_1
                  have hw225_0 := hx225_0
                  cases e225
                  replace hx225_0 := (HB.out.cell (World.block_lt_of_cell? w _ hx225_0)).trans hx225_0
                  replace hx225_1 := (HB.out.cell (World.block_lt_of_cell? w _ hx225_1)).trans hx225_1
                  replace p225 := eq_true p225
                  replace q225 := eq_true q225
                  have p226 : 0 ≤ ((ji9) : Int) := of_decide_eq_true (by first | (with_reducible assumption) | assumption)
                  have q226 : (ji9) < (l0.length : Int) := of_decide_eq_true (by first | (with_reducible assumption) | assumption)
                  obtain ⟨ad226, e226, hx226_0, hx226_1⟩ := at_T109 HR0.out (ji9) p226 q226
                  have hw226_1 := hx226_1
                  have hw226_0 := hx226_0
                  obtain rfl : ad225 = ad226 := (by injection e226)
                  replace hx226_0 := (HB.out.cell (World.block_lt_of_cell? w _ hx226_0)).trans hx226_0
                  replace hx226_1 := (HB.out.cell (World.block_lt_of_cell? w _ hx226_1)).trans hx226_1
                  replace p226 := eq_true p226
                  replace q226 := eq_true q226
                  refine start_ (n := 16) (S := fun w' => w'.cell? (ad225.add ((x4_1).toNat * 2)) = some (.int .i64 ((rd_T109 l0 x4_1).f0)) ∧ w'.cell? ⟨(ad225.add ((x4_1).toNat * 2)).block, (ad225.add ((x4_1).toNat * 2)).off + 1, none⟩ = some (.int .i64 ((rd_T109 l0 x4_1).f1)) ∧ w'.cell? (ad225.add (((ji9)).toNat * 2)) = some (.int .i64 ((rd_T109 l0 (ji9)).f0)) ∧ w'.cell? ⟨(ad225.add (((ji9)).toNat * 2)).block, (ad225.add (((ji9)).toNat * 2)).off + 1, none⟩ = some (.int .i64 ((rd_T109 l0 (ji9)).f1))) (ds := []) #[false, false, false, false, false, false, false, false, false, false, false, false, false, false, false, false] (by kernel_rfl) rfl rfl ⟨((HB.out.cell (World.block_lt_of_cell? w _ hw225_0)).trans hw225_0), ((HB.out.cell (World.block_lt_of_cell? w _ hw225_1)).trans hw225_1), ((HB.out.cell (World.block_lt_of_cell? w _ hw226_0)).trans hw226_0), ((HB.out.cell (World.block_lt_of_cell? w _ hw226_1)).trans hw226_1)⟩ (fun hHeld => ?_); refine with_tabW impl_GapsOf.tab6 impl_GapsOf.bits6 (fun HT_ HW_ => ?_)
                  generalize wr.drew = w13 at HO_3 HB hx225_0 hx225_1 hx226_0 hx226_1 hHeld ⊢
                  refine pure_ (i := 0) (N := some 14) (v := ?_) (a' := ?_) #[true, false, false, false, false, false, false, false, false, false, false, false, false, false, false, false] rfl rfl (any_of HT_.out (by kernel_rfl)) (fun _ _ _ h => h) (Or.inl ⟨by rfl, ?_⟩) ?_ ?_
                  rotate_left
                  · intro w'
                    go_simp
                    with_reducible rfl
                  rotate_left
                  · simp only [Act.put, List.setIfInBounds_toArray, List.set_cons_zero, List.set_cons_succ, i64_w, i32_w]
                    rfl
                  refine pure_ (i := 1) (N := some 15) (v := ?_) (a' := ?_) #[true, true, false, false, false, false, false, false, false, false, false, false, false, false, false, false] rfl rfl (any_of HT_.out (by kernel_rfl)) (fun _ _ _ h => h) (Or.inl ⟨by rfl, ?_⟩) ?_ ?_
                  rotate_left
                  · intro w'
                    go_simp
                    with_reducible rfl
                  rotate_left
                  · simp only [Act.put, List.setIfInBounds_toArray, List.set_cons_zero, List.set_cons_succ, i64_w, i32_w]
                    rfl
                  refine pure_ (i := 2) (N := some 16) (v := ?_) (a' := ?_) #[true, true, true, false, false, false, false, false, false, false, false, false, false, false, false, false] rfl rfl (any_of HT_.out (by kernel_rfl)) (fun _ _ _ h => h) (Or.inl ⟨by rfl, ?_⟩) ?_ ?_
                  rotate_left
                  · intro w'
                    go_simp
                    with_reducible rfl
                  rotate_left
                  · simp only [Act.put, List.setIfInBounds_toArray, List.set_cons_zero, List.set_cons_succ, i64_w, i32_w]
                    rfl
                  refine pure_ (i := 3) (N := some 17) (v := ?_) (a' := ?_) #[true, true, true, true, false, false, false, false, false, false, false, false, false, false, false, false] rfl rfl (any_of HT_.out (by kernel_rfl)) (fun _ _ _ h => h) (Or.inl ⟨by rfl, ?_⟩) ?_ ?_
                  rotate_left
                  · intro w'
                    go_simp
                    with_reducible rfl
                  rotate_left
                  · simp only [Act.put, List.setIfInBounds_toArray, List.set_cons_zero, List.set_cons_succ, i64_w, i32_w]
                    rfl
                  refine pure_ (i := 4) (N := some 18) (v := ?_) (a' := ?_) #[true, true, true, true, true, false, false, false, false, false, false, false, false, false, false, false] rfl rfl (any_of HT_.out (by kernel_rfl)) (fun _ _ _ h => h) (Or.inl ⟨by rfl, ?_⟩) ?_ ?_
                  rotate_left
                  · intro w'
                    go_simp
                    with_reducible rfl
                  rotate_left
                  · simp only [Act.put, List.setIfInBounds_toArray, List.set_cons_zero, List.set_cons_succ, i64_w, i32_w]
                    rfl
                  refine pure_ (i := 6) (N := some 20) (v := ?_) (a' := ?_) #[true, true, true, true, true, false, true, false, false, false, false, false, false, false, false, false] rfl rfl (any_of HT_.out (by kernel_rfl)) (fun _ _ _ h => h) (Or.inl ⟨by rfl, ?_⟩) ?_ ?_
                  rotate_left
                  · intro w'
                    go_simp
                    with_reducible rfl
                  rotate_left
                  · simp only [Act.put, List.setIfInBounds_toArray, List.set_cons_zero, List.set_cons_succ, i64_w, i32_w]
                    rfl
                  refine pure_ (i := 7) (N := some 21) (v := ?_) (a' := ?_) #[true, true, true, true, true, false, true, true, false, false, false, false, false, false, false, false] rfl rfl (any_of HT_.out (by kernel_rfl)) (fun _ _ _ h => h) (Or.inl ⟨by rfl, ?_⟩) ?_ ?_
                  rotate_left
                  · intro w'
                    go_simp
                    with_reducible rfl
                  rotate_left
                  · simp only [Act.put, List.setIfInBounds_toArray, List.set_cons_zero, List.set_cons_succ, i64_w, i32_w]
                    rfl
                  refine pure_ (i := 8) (N := some 22) (v := ?_) (a' := ?_) #[true, true, true, true, true, false, true, true, true, false, false, false, false, false, false, false] rfl rfl (any_of HT_.out (by kernel_rfl)) (fun _ _ _ h => h) (Or.inl ⟨by rfl, ?_⟩) ?_ ?_
                  rotate_left
                  · intro w'
                    go_simp
                    with_reducible rfl
                  rotate_left
                  · simp only [Act.put, List.setIfInBounds_toArray, List.set_cons_zero, List.set_cons_succ, i64_w, i32_w]
                    rfl
                  refine pure_ (i := 9) (N := some 23) (v := ?_) (a' := ?_) #[true, true, true, true, true, false, true, true, true, true, false, false, false, false, false, false] rfl rfl (any_of HT_.out (by kernel_rfl)) (fun _ _ _ h => h) (Or.inl ⟨by rfl, ?_⟩) ?_ ?_
                  rotate_left
                  · intro w'
                    go_simp
                    with_reducible rfl
                  rotate_left
                  · simp only [Act.put, List.setIfInBounds_toArray, List.set_cons_zero, List.set_cons_succ, i64_w, i32_w]
                    rfl
                  refine pure_ (i := 10) (N := some 24) (v := ?_) (a' := ?_) #[true, true, true, true, true, false, true, true, true, true, true, false, false, false, false, false] rfl rfl (any_of HT_.out (by kernel_rfl)) (fun _ _ _ h => h) (Or.inl ⟨by rfl, ?_⟩) ?_ ?_
                  rotate_left
                  · intro w'
                    go_simp
                    with_reducible rfl
                  rotate_left
                  · simp only [Act.put, List.setIfInBounds_toArray, List.set_cons_zero, List.set_cons_succ, i64_w, i32_w]
                    rfl
                  refine take_ (i := 5) (N := some 19) (v := ?_) (a' := ?_) #[true, true, true, true, true, true, true, true, true, true, true, false, false, false, false, false] rfl rfl (take_ofW HT_.out HW_.out (by kernel_rfl)) (fun _ _ _ h => h) (Or.inl ⟨by rfl, ?_⟩) hHeld ?_ ?_
                  rotate_left
                  · rintro w' ⟨s0, s1, s2, s3⟩
                    go_simp
                    with_reducible rfl
                  rotate_left
                  · simp only [Act.put, List.setIfInBounds_toArray, List.set_cons_zero, List.set_cons_succ, i64_w, i32_w]
                    rfl
                  refine take_ (i := 11) (N := some 25) (v := ?_) (a' := ?_) #[true, true, true, true, true, true, true, true, true, true, true, true, false, false, false, false] rfl rfl (take_ofW HT_.out HW_.out (by kernel_rfl)) (fun _ _ _ h => h) (Or.inl ⟨by rfl, ?_⟩) hHeld ?_ ?_
                  rotate_left
                  · rintro w' ⟨s0, s1, s2, s3⟩
                    go_simp
                    with_reducible rfl
                  rotate_left
                  · simp only [Act.put, List.setIfInBounds_toArray, List.set_cons_zero, List.set_cons_succ, i64_w, i32_w]
                    rfl
                  refine pure_ (i := 12) (N := some 26) (v := ?_) (a' := ?_) #[true, true, true, true, true, true, true, true, true, true, true, true, true, false, false, false] rfl rfl (any_of HT_.out (by kernel_rfl)) (fun _ _ _ h => h) (Or.inl ⟨by rfl, ?_⟩) ?_ ?_
                  rotate_left
                  · intro w'
                    go_simp
                    with_reducible rfl
                  rotate_left
                  · simp only [Act.put, List.setIfInBounds_toArray, List.set_cons_zero, List.set_cons_succ, i64_w, i32_w]
                    rfl
                  refine one_ (i := 13) (N := some 27) #[true, true, true, true, true, true, true, true, true, true, true, true, true, true, false, false] rfl rfl (one_of HT_.out (by kernel_rfl)) (by decide) (fun K hK => ?_)
                  refine value_ (w1 := ?_) (v := ?_) (by rfl) rfl ?_ ?_
                  rotate_left 2
                  · go_simp
                    constructor
                    · rfl
                    · rfl
                  refine hK.out _ _ ⟨(World.cell?_alloc_lt _ _ _ (World.block_lt_of_cell? _ _ (((HB.out.cell (World.block_lt_of_cell? w _ hw225_0)).trans hw225_0)))).trans (((HB.out.cell (World.block_lt_of_cell? w _ hw225_0)).trans hw225_0)), (World.cell?_alloc_lt _ _ _ (World.block_lt_of_cell? _ _ (((HB.out.cell (World.block_lt_of_cell? w _ hw225_1)).trans hw225_1)))).trans (((HB.out.cell (World.block_lt_of_cell? w _ hw225_1)).trans hw225_1)), (World.cell?_alloc_lt _ _ _ (World.block_lt_of_cell? _ _ (((HB.out.cell (World.block_lt_of_cell? w _ hw226_0)).trans hw226_0)))).trans (((HB.out.cell (World.block_lt_of_cell? w _ hw226_0)).trans hw226_0)), (World.cell?_alloc_lt _ _ _ (World.block_lt_of_cell? _ _ (((HB.out.cell (World.block_lt_of_cell? w _ hw226_1)).trans hw226_1)))).trans (((HB.out.cell (World.block_lt_of_cell? w _ hw226_1)).trans hw226_1))⟩ (fun hHeld => ?_)
                  clear hK K
                  refine norm_ (a' := ?_) ?_ ?_
                  rotate_left
                  · show Act.put _ (some 27) _ = _
                    simp only [Act.put, List.setIfInBounds_toArray, List.set_cons_zero, List.set_cons_succ, i64_w, i32_w]
                    rfl
                  refine one_ (i := 14) (N := some 28) #[true, true, true, true, true, true, true, true, true, true, true, true, true, true, true, false] rfl rfl (one_of HT_.out (by kernel_rfl)) (by decide) (fun K hK => ?_)
                  refine Kd.R_append_step (Kd.int .i64) (w0 := w) w.heap.size (by rfl) (.tmp 14) (.tmp 27) 29 3 (.int .i64 0) 8 rfl Try.underlying29 info3 rfl (by decide) (by omega) u3 x3_1 (wrap64 (((rd_T109 l0 x4_1).f0) - ((rd_T109 l0 (ji9)).f0))) [.int .i64 (wrap64 (((rd_T109 l0 x4_1).f0) - ((rd_T109 l0 (ji9)).f0)))] (fun _ => True) (fun _ => False) rfl rfl ?aP (fun _ hk => hk.elim) ?aF ?aO ?aB ?aS ?aL ?_
                  (case aP => exact rfl)
                  (case aB => exact (by repeat (first | (with_reducible first | exact HB.out | apply below_alloc | apply pw_below_drewN | apply below_drew1) | exact HB.out)))
                  (case aF => exact (fun _ _ => trivial))
                  (case aO => exact (by (with_reducible repeat (first | apply Kd.R_alloc | apply Kd.R_drewN | apply Kd.R_drew)); exact HO_3.out))
                  (case aS => exact (below_size (by repeat (first | (with_reducible first | exact HB.out | apply below_alloc | apply pw_below_drewN | apply below_drew1) | exact HB.out))))
                  (case aL => have := LMc12.out; omega)
                  intro v228 w14 ho hb hg hat
                  rw [← Ny227.out] at ho
                  have n0_ := Aside0.mk (hb)
                  have n1_ := Aside0.mk (ho)
                  clear HB
                  clear HO_3
                  have HB := n0_
                  have HO229 := n1_
                  clear n0_ n1_
                  clear ho hb hg hat
                  refine hK.out _ _ ⟨((HB.out.cell (World.block_lt_of_cell? w _ hw225_0)).trans hw225_0), ((HB.out.cell (World.block_lt_of_cell? w _ hw225_1)).trans hw225_1), ((HB.out.cell (World.block_lt_of_cell? w _ hw226_0)).trans hw226_0), ((HB.out.cell (World.block_lt_of_cell? w _ hw226_1)).trans hw226_1)⟩ (fun hHeld => ?_)
                  clear hK K
                  refine norm_ (a' := ?_) ?_ ?_
                  rotate_left
                  · show Act.put _ (some 28) _ = _
                    simp only [Act.put, List.setIfInBounds_toArray, List.set_cons_zero, List.set_cons_succ, i64_w, i32_w]
                    rfl
                  refine pure_ (i := 15) (N := some 3) (v := ?_) (a' := ?_) #[true, true, true, true, true, true, true, true, true, true, true, true, true, true, true, true] rfl rfl (any_of HT_.out (by kernel_rfl)) (fun _ _ _ h => h) (Or.inl ⟨by rfl, ?_⟩) ?_ ?_
                  rotate_left
                  · intro w'
                    go_simp
                    with_reducible rfl
                  rotate_left
                  · simp only [Act.put, List.setIfInBounds_toArray, List.set_cons_zero, List.set_cons_succ, i64_w, i32_w]
                    rfl
                  refine done_ (done_of HT_.out (by kernel_rfl)) ?_
                  try go_wp2
                  go_roundg k1
                  case measure => have := HK1.out; omega
                  case rel => exact ⟨(y227), (wrap64 (x4_1 + 1)), (by first | rfl | (simp; done) | (simp [*]; done)), H', ⟨by have := HK1.out; omega⟩, ⟨by (with_reducible repeat (first | apply Kd.R_alloc | apply Kd.R_drewN | apply Kd.R_drew)); exact HO229.out⟩, ⟨by repeat (first | (with_reducible first | exact HB.out | apply below_alloc | apply pw_below_drewN | apply below_drew1) | exact HB.out)⟩⟩
                · rw [if_neg c12] at H
                  exact absurd H (by simp)
              · rw [if_neg c11] at H
                exact absurd H (by simp)
            · rw [if_neg c10] at H
              exact absurd H (by simp)
          · rw [if_neg c8] at H
            exact absurd H (by simp)
        · rw [if_neg c7] at H
          have c7b0 : decide (x4_1 < (l0.length : Int)) = false := decide_eq_false c7
          clear c7
          obtain rfl := Option.some.inj H
          go_wp2
          go_ret
          exact ⟨_, by first | rfl | (simp [errW_none, errW_some] <;> rfl) | (simp [*, errW_none, errW_some] <;> rfl), by (with_reducible repeat (first | apply Kd.R_alloc | apply Kd.R_drewN | apply Kd.R_drew)); exact HO_3.out, by repeat (first | (with_reducible first | exact HB.out | apply below_alloc | apply pw_below_drewN | apply below_drew1) | exact HB.out)⟩
  · replace c3 := Bool.eq_false_iff.mpr c3
    subst c3
    have H1 : (some y221) = some r := by rw [if_neg (show ¬ (false = true) by decide)] at H; exact H
    clear H
    have H := H1
    clear H1
    obtain rfl := Option.some.inj H
    go_enter Try.func27, Try.ntmps27
    go_wp2_with (first | ((with_reducible refine gate_dst (N := 5) rfl ?_); refine Kd.R_lit (Kd.int .i64) _ 3 ?hg (N := 5) ?hd (xs := ([] : List Int)) (inner := []) (ok := fun _ => True) (okp := fun _ => True) ?hr ?hp (fun _ hk => hk) trivial (Below.refl _ _) (Nat.le_refl _) (by simp) ?_; (case hd => rfl); (case hg => rfl); (case hr => first | (go_simp; done) | (go_simp; rfl)); (case hp => exact (Reps.none _ _)); intro v222 w15 ho16 hb hg_ hnew_; clear hg_ hnew_; (first | rw [← Ny221.out] at ho16 | (simp only [Int.reduceToNat] at ho16; rw [← Ny221.out] at ho16)); have n0_ := Aside0.mk (Kd.R_lower ho16 (below_size (by repeat (first | (with_reducible first | exact HB.out | apply below_alloc | apply pw_below_drewN | apply below_drew1) | exact HB.out)))); have n1_ := Aside0.mk (below_step (by repeat (first | (with_reducible first | exact HB.out | apply below_alloc | apply pw_below_drewN | apply below_drew1) | exact HB.out)) hb); clear HB; have HO223 := n0_; have HB := n1_; clear n0_ n1_; clear hb ho16) | ((with_reducible refine gate_callee (f := 86) rfl ?_); refine goesL_ (some 7) rfl rfl Try.func86 (by kernel_rfl) rfl #[.slice A0 l0.length c0] rfl (by (try simp only [List.map_toArray, List.map_cons, List.map_nil]); first | done | rfl | (simp only [List.length_drop, List.length_take]; rfl)) ?_; (with_reducible refine (impl_IsPerformance.calls k _ _ l0 false _ ?side1 ?side2 A2.out).mono ?_); (case side1 => repeat (first | exact (Kd.C_below HR0.out HB.out) | (with_reducible refine Kd.C_alloc ?_ _) | (with_reducible refine Kd.C_drewN ?_ _) | (with_reducible refine Kd.C_drew ?_))); (case side2 => exact HC0.out); rintro e w17 ⟨rfl, hb⟩; refine ⟨_, rfl, ?_⟩; have n0_ := Aside0.mk (Kd.R_below (by (with_reducible repeat (first | apply Kd.R_alloc | apply Kd.R_drewN | apply Kd.R_drew)); exact HO223.out) hb); have n1_ := Aside0.mk (below_step (by repeat (first | (with_reducible first | exact HB.out | apply below_alloc | apply pw_below_drewN | apply below_drew1) | exact HB.out)) hb); clear HO223; clear HB; have HO223 := n0_; have HB := n1_; clear n0_ n1_; (try clear hb); (try clear hb2); (try clear hk); (try clear hi)))
    go_ret
    exact ⟨_, by first | rfl | (simp [errW_none, errW_some] <;> rfl) | (simp [*, errW_none, errW_some] <;> rfl), by (with_reducible repeat (first | apply Kd.R_alloc | apply Kd.R_drewN | apply Kd.R_drew)); exact HO223.out, by repeat (first | (with_reducible first | exact HB.out | apply below_alloc | apply pw_below_drewN | apply below_drew1) | exact HB.out)⟩

end Go.Proofs.Ytiophiipmgpaeaa.F

-- Written for this claim by the kit's print.py out of the translation, called by wip/tools/fprint.py. Lean checks it.
namespace Go.Proofs.Ytiophiipmgpaeaa.F
open Go.RowKit Go.Proofs.YtiophiipmgpaeaaW.PrintWords Go.Proofs.YtiophiipmgpaeaaW.PrintLast Go.Proofs.YtiophiipmgpaeaaW.PrintMore
attribute [local go_sem] max2_int min2_int max_two min_two max_three min_three max_four min_four   -- for this text's walks alone
set_option linter.unusedVariables false
set_option linter.unusedSimpArgs false

/-! ### spec_ShiftAll: function 34 -/
mutual
def spec_ShiftAll.j0 : Nat → List (S109) → Int → List (S109) → Bool → Option ((List (S109)) × Bool)
  | 0, _, _, _, _ => none
  | k + 1, x0, x1, x6, x18 => if x18 = true then (some (x6, false)) else (spec_ShiftAll.l0 k x0 x1 x6 0)
def spec_ShiftAll.l0 : Nat → List (S109) → Int → List (S109) → Int → Option ((List (S109)) × Bool)
  | 0, _, _, _, _ => none
  | k + 1, x0, x1, x6, x7 => if x7 < (x6.length : Int) then (if 0 ≤ x7 then (spec_ShiftAll.l0 k x0 x1 (x6.set (x7 : Int).toNat (⟨wrap64 (((rd_T109 x6 x7).f0) + x1), (rd_T109 x6 x7).f1⟩ : S109)) (wrap64 (x7 + 1))) else (none)) else ((spec_IsPerformance.f k x6).bind fun t328 => (if t328 = true then (some (x6, true)) else ((some (([] : List (S109)) : List (S109))).bind fun y329 => (if y329.length + x0.length < 8796093022208 then (some ((y329 ++ x0), false)) else (none)))))
end
def spec_ShiftAll.f (k : Nat) (l0 : List (S109)) (a1 : Int) : Option ((List (S109)) × Bool) := (some (([] : List (S109)) : List (S109))).bind fun y318 => (if y318.length + l0.length < 8796093022208 then ((some (y318 ++ l0 : List (S109))).bind fun y321 => ((spec_IsPerformance.f k l0).bind fun t324 => (if t324 = true then ((spec_l1In.f a1 (-10000000) 10000000).bind fun t325 => (spec_ShiftAll.j0 k l0 a1 y321 (!t325))) else (spec_ShiftAll.j0 k l0 a1 y321 true)))) else (none))
theorem spec_ShiftAll.mono_l : ∀ k, (∀ y0 y1 y2 y3, LeO (spec_ShiftAll.j0 k y0 y1 y2 y3) (spec_ShiftAll.j0 (k + 1) y0 y1 y2 y3)) ∧ (∀ y0 y1 y2 y3, LeO (spec_ShiftAll.l0 k y0 y1 y2 y3) (spec_ShiftAll.l0 (k + 1) y0 y1 y2 y3))
  | 0 => ⟨fun _ _ _ _ r h => by simp [spec_ShiftAll.j0] at h, fun _ _ _ _ r h => by simp [spec_ShiftAll.l0] at h⟩
  | k + 1 => by
    obtain ⟨ih0, ih1⟩ := spec_ShiftAll.mono_l k
    refine ⟨?_, ?_⟩
    · intro y0 y1 y2 y3
      unfold spec_ShiftAll.j0
      repeat' first
      | (with_reducible exact ih0 _ _ _ _)
      | (with_reducible exact ih1 _ _ _ _)
      | (with_reducible exact spec_IsPerformance.mono _ _)
      | (with_reducible exact LeO.refl _)
      | (with_reducible exact LeO.none _)
      | (with_reducible refine LeO.ite ?_ ?_)
      | (with_reducible refine LeO.bind ?_ (fun _ => ?_))
      | exact ih0 _ _ _ _
      | exact ih1 _ _ _ _
      | exact spec_IsPerformance.mono _ _
      | exact LeO.none _
      | refine LeO.ite ?_ ?_
      | refine LeO.bind ?_ (fun _ => ?_)
    · intro y0 y1 y2 y3
      unfold spec_ShiftAll.l0
      repeat' first
      | (with_reducible exact ih0 _ _ _ _)
      | (with_reducible exact ih1 _ _ _ _)
      | (with_reducible exact spec_IsPerformance.mono _ _)
      | (with_reducible exact LeO.refl _)
      | (with_reducible exact LeO.none _)
      | (with_reducible refine LeO.ite ?_ ?_)
      | (with_reducible refine LeO.bind ?_ (fun _ => ?_))
      | exact ih0 _ _ _ _
      | exact ih1 _ _ _ _
      | exact spec_IsPerformance.mono _ _
      | exact LeO.none _
      | refine LeO.ite ?_ ?_
      | refine LeO.bind ?_ (fun _ => ?_)
theorem spec_ShiftAll.mono : ∀ a0 a1 k, LeO (spec_ShiftAll.f k a0 a1) (spec_ShiftAll.f (k + 1) a0 a1) := by
  intro a0 a1 k
  obtain ⟨ih0, ih1⟩ := spec_ShiftAll.mono_l k
  unfold spec_ShiftAll.f
  repeat' first
      | (with_reducible exact ih0 _ _ _ _)
      | (with_reducible exact ih1 _ _ _ _)
      | (with_reducible exact spec_IsPerformance.mono _ _)
      | (with_reducible exact LeO.refl _)
      | (with_reducible exact LeO.none _)
      | (with_reducible refine LeO.ite ?_ ?_)
      | (with_reducible refine LeO.bind ?_ (fun _ => ?_))
      | exact ih0 _ _ _ _
      | exact ih1 _ _ _ _
      | exact spec_IsPerformance.mono _ _
      | exact LeO.none _
      | refine LeO.ite ?_ ?_
      | refine LeO.bind ?_ (fun _ => ?_)
set_option maxHeartbeats 8000000 in
set_option maxRecDepth 100000 in
theorem spec_ShiftAll.calls (k : Nat) (A0 : Option Addr) (c0 : Nat) (l0 : List (S109)) (a1 : Int) (r1 : List (S109)) (r2 : Bool) (w : World) (hr0 : Kd.C k109 w A0 l0.length l0) (hc0 : l0.length ≤ c0) (h : spec_ShiftAll.f k l0 a1 = some (r1, r2)) :
    Calls Try.prog 34 #[.slice A0 l0.length c0, .int .i64 a1] w fun e w' => ∃ v0_ : Value, e = .returned (.tuple #[v0_, .bool r2]) ∧ Kd.R k109 109 w' w.heap.size (fun _ => True) v0_ r1 ∧ Below w.heap.size w w' := by
  have HR0 := Aside0.mk hr0
  have HC0 := Aside0.mk hc0
  clear hr0 hc0
  have HB := Aside0.mk (Below.refl w.heap.size w)
  have H : ((some (([] : List (S109)) : List (S109))).bind fun y318 => (if y318.length + l0.length < 8796093022208 then ((some (y318 ++ l0 : List (S109))).bind fun y321 => ((spec_IsPerformance.f k l0).bind fun t324 => (if t324 = true then ((spec_l1In.f a1 (-10000000) 10000000).bind fun t325 => (spec_ShiftAll.j0 k l0 a1 y321 (!t325))) else (spec_ShiftAll.j0 k l0 a1 y321 true)))) else (none))) = some (r1, r2) := h
  clear h
  obtain ⟨y318, hy318⟩ : ∃ y_ : List (S109), y_ = (([] : List (S109))) := ⟨_, rfl⟩
  replace H : (if y318.length + l0.length < 8796093022208 then ((some (y318 ++ l0 : List (S109))).bind fun y321 => ((spec_IsPerformance.f k l0).bind fun t324 => (if t324 = true then ((spec_l1In.f a1 (-10000000) 10000000).bind fun t325 => (spec_ShiftAll.j0 k l0 a1 y321 (!t325))) else (spec_ShiftAll.j0 k l0 a1 y321 true)))) else (none)) = some (r1, r2) := by first | (rw [hy318]; with_reducible exact H) | (have H2_ := (Option.bind_some _ _).symm.trans H; rw [hy318]; with_reducible exact H2_) | (have H2_ := (Option.bind_some _ _).symm.trans H; with_reducible exact H2_) | with_reducible exact H | (rw [hy318]; exact H) | exact H
  have Ny318 := Aside0.mk hy318
  clear hy318
  by_cases c3 : y318.length + l0.length < 8796093022208
  · rw [if_pos c3] at H
    have LMc3 := Aside0.mk c3
    clear c3
    obtain ⟨y321, hy321⟩ : ∃ y_ : List (S109), y_ = (y318 ++ l0) := ⟨_, rfl⟩
    replace H : ((spec_IsPerformance.f k l0).bind fun t324 => (if t324 = true then ((spec_l1In.f a1 (-10000000) 10000000).bind fun t325 => (spec_ShiftAll.j0 k l0 a1 y321 (!t325))) else (spec_ShiftAll.j0 k l0 a1 y321 true))) = some (r1, r2) := by first | (rw [hy321]; with_reducible exact H) | (have H2_ := (Option.bind_some _ _).symm.trans H; rw [hy321]; with_reducible exact H2_) | (have H2_ := (Option.bind_some _ _).symm.trans H; with_reducible exact H2_) | with_reducible exact H | (rw [hy321]; exact H) | exact H
    have Ny321 := Aside0.mk hy321
    clear hy321
    have HC4 := Aside0.mk H
    clear H
    go_enter Try.func34, Try.ntmps34
    go_upto_region 2 with (first | ((with_reducible refine gate_dst (N := 8) rfl ?_); refine Kd.R_lit k109 _ 109 ?hg (N := 8) ?hd (xs := ([] : List (S109))) (inner := []) (ok := fun _ => True) (okp := fun _ => True) ?hr ?hp (fun _ hk => hk) trivial (Below.refl _ _) (Nat.le_refl _) (by simp) ?_; (case hd => rfl); (case hg => rfl); (case hr => first | (go_simp; done) | (go_simp; rfl)); (case hp => exact (Reps.none _ _)); intro v319 w5 ho6 hb hg_ hnew_; clear hg_ hnew_; (first | rw [← Ny318.out] at ho6 | (simp only [Int.reduceToNat] at ho6; rw [← Ny318.out] at ho6)); have n0_ := Aside0.mk (Kd.R_lower ho6 (below_size (by repeat (first | (with_reducible first | exact HB.out | apply below_alloc | apply pw_below_drewN | apply below_drew1) | exact HB.out)))); have n1_ := Aside0.mk (below_step (by repeat (first | (with_reducible first | exact HB.out | apply below_alloc | apply pw_below_drewN | apply below_drew1) | exact HB.out)) hb); clear HB; have HO320 := n0_; have HB := n1_; clear n0_ n1_; clear hb ho6) | ((with_reducible refine gate_builtin (b := .append) (xs := #[.tmp 8, .tmp 9]) rfl ?_); at_builtin; refine Kd.R_append_rows k109 (w0 := w) w.heap.size rfl (.tmp 8) (.tmp 9) 37 109 (.agg #[(.int .i64 0), (.int .i64 0)]) 16 rfl Try.underlying37 info109 rfl (by decide) (by omega) v319 y318 l0 _ _ _ (fun _ => True) (fun _ => False) rfl rfl ?aO ?aR (fun _ _ h => h) (fun _ h => h.elim) ?aF ?aB ?aS ?aL ?_; (case aR => repeat (first | exact (Kd.C_below HR0.out HB.out) | (with_reducible refine Kd.C_alloc ?_ _) | (with_reducible refine Kd.C_drewN ?_ _) | (with_reducible refine Kd.C_drew ?_))); (case aB => exact (by repeat (first | (with_reducible first | exact HB.out | apply below_alloc | apply pw_below_drewN | apply below_drew1) | exact HB.out))); (case aF => exact (fun _ _ => trivial)); (case aO => exact (by (with_reducible repeat (first | apply Kd.R_alloc | apply Kd.R_drewN | apply Kd.R_drew)); exact HO320.out)); (case aS => exact (below_size (by repeat (first | (with_reducible first | exact HB.out | apply below_alloc | apply pw_below_drewN | apply below_drew1) | exact HB.out)))); (case aL => have := LMc3.out; omega); intro v322 w7 ho hb hg hat; rw [← Ny321.out] at ho; have n0_ := Aside0.mk (hb); have n1_ := Aside0.mk (ho); clear HB; clear HO320; have HB := n0_; have HO323 := n1_; clear n0_ n1_; clear ho hb hg hat))
    (try simp only [Act.put, List.setIfInBounds_toArray, List.set_cons_zero, List.set_cons_succ])
    go_cut [18] (fun v18 wc => ∃ (kq : Nat) (x18_3 : Bool), v18 = .bool x18_3 ∧ Aside0 (spec_ShiftAll.j0 kq l0 a1 y321 x18_3 = some (r1, r2)) ∧ Aside0 (kq ≤ k) ∧ Aside0 (Kd.R k109 109 wc w.heap.size (fun _ => True) v322 y321) ∧ Aside0 (Below w.heap.size w wc))
    case first =>
      have H := HC4.out
      clear HC4
      replace H := Option.bind_eq_some_iff.mp H
      obtain ⟨t324, A80, H⟩ := H
      replace H : (if t324 = true then ((spec_l1In.f a1 (-10000000) 10000000).bind fun t325 => (spec_ShiftAll.j0 k l0 a1 y321 (!t325))) else (spec_ShiftAll.j0 k l0 a1 y321 true)) = some (r1, r2) := H
      have A8 := Aside0.mk A80
      clear A80
      by_cases c9 : t324 = true
      · subst c9
        have H1 : ((spec_l1In.f a1 (-10000000) 10000000).bind fun t325 => (spec_ShiftAll.j0 k l0 a1 y321 (!t325))) = some (r1, r2) := by rw [if_pos rfl] at H; exact H
        clear H
        have H := H1
        clear H1
        replace H := Option.bind_eq_some_iff.mp H
        obtain ⟨t325, A100, H⟩ := H
        replace H : (spec_ShiftAll.j0 k l0 a1 y321 (!t325)) = some (r1, r2) := H
        have A10 := Aside0.mk A100
        clear A100
        have H' := Aside0.mk H
        clear H
        go_wp2_with (first | ((with_reducible refine gate_callee (f := 84) rfl ?_); refine goesL_ (some 12) rfl rfl Try.func84 (by kernel_rfl) rfl #[.slice A0 l0.length c0] rfl (by (try simp only [List.map_toArray, List.map_cons, List.map_nil]); first | done | rfl | (simp only [List.length_drop, List.length_take]; rfl)) ?_; (with_reducible refine (spec_IsPerformance.calls k _ _ l0 true _ ?side1 ?side2 A8.out).mono ?_); (case side1 => repeat (first | exact (Kd.C_below HR0.out HB.out) | (with_reducible refine Kd.C_alloc ?_ _) | (with_reducible refine Kd.C_drewN ?_ _) | (with_reducible refine Kd.C_drew ?_))); (case side2 => exact HC0.out); rintro e w11 ⟨rfl, hb⟩; refine ⟨_, rfl, ?_⟩; have n0_ := Aside0.mk (Kd.R_below (by (with_reducible repeat (first | apply Kd.R_alloc | apply Kd.R_drewN | apply Kd.R_drew)); exact HO323.out) hb); have n1_ := Aside0.mk (below_step (by repeat (first | (with_reducible first | exact HB.out | apply below_alloc | apply pw_below_drewN | apply below_drew1) | exact HB.out)) hb); clear HO323; clear HB; have HO323 := n0_; have HB := n1_; clear n0_ n1_; (try clear hb); (try clear hb2); (try clear hk); (try clear hi)) | (go_at_call 80; (with_reducible refine (spec_l1In.calls a1 (-10000000) 10000000 t325 _ A10.out).mono ?_); rintro e w' ⟨rfl, ⟨nd, rfl⟩⟩))
        go_meet
        case rel => exact ⟨_, (!t325), (by first | rfl | (simp; done) | (simp [*]; done)), H', ⟨by first | omega | exact Nat.le_refl _⟩, ⟨by (with_reducible repeat (first | apply Kd.R_alloc | apply Kd.R_drewN | apply Kd.R_drew)); exact HO323.out⟩, ⟨by repeat (first | (with_reducible first | exact HB.out | apply below_alloc | apply pw_below_drewN | apply below_drew1) | exact HB.out)⟩⟩
      · replace c9 := Bool.eq_false_iff.mpr c9
        subst c9
        have H1 : (spec_ShiftAll.j0 k l0 a1 y321 true) = some (r1, r2) := by rw [if_neg (show ¬ (false = true) by decide)] at H; exact H
        clear H
        have H := H1
        clear H1
        have H' := Aside0.mk H
        clear H
        go_wp2_with (first | ((with_reducible refine gate_callee (f := 84) rfl ?_); refine goesL_ (some 12) rfl rfl Try.func84 (by kernel_rfl) rfl #[.slice A0 l0.length c0] rfl (by (try simp only [List.map_toArray, List.map_cons, List.map_nil]); first | done | rfl | (simp only [List.length_drop, List.length_take]; rfl)) ?_; (with_reducible refine (spec_IsPerformance.calls k _ _ l0 false _ ?side1 ?side2 A8.out).mono ?_); (case side1 => repeat (first | exact (Kd.C_below HR0.out HB.out) | (with_reducible refine Kd.C_alloc ?_ _) | (with_reducible refine Kd.C_drewN ?_ _) | (with_reducible refine Kd.C_drew ?_))); (case side2 => exact HC0.out); rintro e w12 ⟨rfl, hb⟩; refine ⟨_, rfl, ?_⟩; have n0_ := Aside0.mk (Kd.R_below (by (with_reducible repeat (first | apply Kd.R_alloc | apply Kd.R_drewN | apply Kd.R_drew)); exact HO323.out) hb); have n1_ := Aside0.mk (below_step (by repeat (first | (with_reducible first | exact HB.out | apply below_alloc | apply pw_below_drewN | apply below_drew1) | exact HB.out)) hb); clear HO323; clear HB; have HO323 := n0_; have HB := n1_; clear n0_ n1_; (try clear hb); (try clear hb2); (try clear hk); (try clear hi)))
        go_meet
        case rel => exact ⟨_, (true), (by first | rfl | (simp; done) | (simp [*]; done)), H', ⟨by first | omega | exact Nat.le_refl _⟩, ⟨by (with_reducible repeat (first | apply Kd.R_alloc | apply Kd.R_drewN | apply Kd.R_drew)); exact HO323.out⟩, ⟨by repeat (first | (with_reducible first | exact HB.out | apply below_alloc | apply pw_below_drewN | apply below_drew1) | exact HB.out)⟩⟩
    case rest =>
      clear HC4
      try clear p2
      try clear c3
      try clear c8
      try clear c9
      obtain ⟨kq, x18_3, rfl, HA, HJ3, HO_6, HB⟩ := hcut
      cases kq with
      | zero => exact absurd HA.out (by simp [spec_ShiftAll.j0])
      | succ kj3 =>
        have H := HA.out
        clear HA
        simp only [spec_ShiftAll.j0] at H
        by_cases c13 : x18_3 = true
        · subst c13
          have H1 : (some (y321, false)) = some (r1, r2) := by rw [if_pos rfl] at H; exact H
          clear H
          have H := H1
          clear H1
          simp only [Option.some.injEq, Prod.mk.injEq] at H
          obtain ⟨rfl, rfl⟩ := H
          go_wp2
          go_ret2
          exact ⟨_, by first | rfl | (simp [errW_none, errW_some] <;> rfl) | (simp [*, errW_none, errW_some] <;> rfl), by (with_reducible repeat (first | apply Kd.R_alloc | apply Kd.R_drewN | apply Kd.R_drew)); exact HO_6.out, by repeat (first | (with_reducible first | exact HB.out | apply below_alloc | apply pw_below_drewN | apply below_drew1) | exact HB.out)⟩
        · replace c13 := Bool.eq_false_iff.mpr c13
          subst c13
          have H1 : (spec_ShiftAll.l0 kj3 l0 a1 y321 0) = some (r1, r2) := by rw [if_neg (show ¬ (false = true) by decide)] at H; exact H
          clear H
          have H := H1
          clear H1
          have H' := Aside0.mk H
          clear H
          go_wp2
          go_loopg [7] kj3 (fun kq v7 w' => ∃ (x6_2 : List (S109)) (x7_2 : Int), v7 = .int .i64 x7_2 ∧ Aside0 (spec_ShiftAll.l0 kq l0 a1 x6_2 x7_2 = some (r1, r2)) ∧ Aside0 (kq ≤ kj3) ∧ Aside0 (Kd.R k109 109 w' w.heap.size (fun _ => True) v322 x6_2) ∧ Aside0 (Below w.heap.size w w'))
          case atStart => exact ⟨(y321), (0), (by first | rfl | (simp; done) | (simp [*]; done)), H', ⟨Nat.le_refl _⟩, ⟨by (with_reducible repeat (first | apply Kd.R_alloc | apply Kd.R_drewN | apply Kd.R_drew)); exact HO_6.out⟩, ⟨by repeat (first | (with_reducible first | exact HB.out | apply below_alloc | apply pw_below_drewN | apply below_drew1) | exact HB.out)⟩⟩
          case round =>
            clear H'
            try clear c1
            try clear p2
            try clear c3
            try clear c8
            try clear c9
            try clear c13
            try clear p2
            obtain ⟨x6_2, x7_2, rfl, HA, HK2, HO_6, HB⟩ := hrel
            cases gk with
            | zero => exact absurd HA.out (by simp [spec_ShiftAll.l0])
            | succ k2 =>
              have H := HA.out
              clear HA
              simp only [spec_ShiftAll.l0] at H
              by_cases c14 : x7_2 < (x6_2.length : Int)
              · rw [if_pos c14] at H
                have c14b0 : decide (x7_2 < (x6_2.length : Int)) = true := decide_eq_true c14
                clear c14
                by_cases c15 : 0 ≤ x7_2
                · rw [if_pos c15] at H
                  have c15b0 : decide (0 ≤ x7_2) = true := decide_eq_true c15
                  clear c15
                  obtain ⟨y327, hy327⟩ : ∃ y_ : List (S109), y_ = (x6_2.set (x7_2 : Int).toNat (⟨wrap64 (((rd_T109 x6_2 x7_2).f0) + a1), (rd_T109 x6_2 x7_2).f1⟩ : S109)) := ⟨_, rfl⟩
                  replace H : (spec_ShiftAll.l0 k2 l0 a1 y327 (wrap64 (x7_2 + 1))) = some (r1, r2) := by first | (rw [hy327]; with_reducible exact H) | (have H2_ := (Option.bind_some _ _).symm.trans H; rw [hy327]; with_reducible exact H2_) | (have H2_ := (Option.bind_some _ _).symm.trans H; with_reducible exact H2_) | with_reducible exact H | (rw [hy327]; exact H) | exact H
                  have Ny327 := Aside0.mk hy327
                  clear hy327
                  have H' := Aside0.mk H
                  clear H
                  obtain ⟨Ao17, co17, eo17⟩ := Kd.R_slice HO_6.out
                  subst eo17
                  have p326 : 0 ≤ (x7_2 : Int) := of_decide_eq_true (by first | (with_reducible assumption) | assumption)
                  have q326 : x7_2 < (x6_2.length : Int) := of_decide_eq_true (by first | (with_reducible assumption) | assumption)
                  obtain ⟨ad326, e326, hx326_0, hx326_1⟩ := at_T109 (Kd.R_reads' HO_6.out).2.2 x7_2 p326 q326
                  cases e326
                  replace p326 := eq_true p326
                  replace q326 := eq_true q326
                  have p16 : 0 ≤ (x7_2 : Int) := of_decide_eq_true (by first | (with_reducible assumption) | assumption)
                  have q16 : (x7_2 : Int) < ((x6_2.length : Int) : Int) := of_decide_eq_true (by first | (with_reducible assumption) | assumption)
                  obtain ⟨go16, co16, eo16, gb16, gl16, cl16, HG16⟩ := Kd.R_form HO_6.out (by omega)
                  (first | cases eo16 | (injection eo16 with ea_ en_ ec_; (first | subst ea_ | (injection ea_ with ea_; subst ea_)); subst ec_; clear en_))
                  have GB16 := Aside0.mk gb16
                  have GG16 := Aside0.mk HG16
                  clear gb16 gl16 HG16
                  (first | simp only [add_plain] at hx326_0 | skip)
                  (first | simp only [add_plain] at hx326_1 | skip)
                  obtain ⟨ce16, hcl16, hM16, hcc16, hfr16⟩ := Kd.R_elem HO_6.out z109 (x7_2 : Int) p16 q16
                  obtain rfl := k109_openM hM16
                  have hx16_0 : wr.cell? ⟨go16, (x7_2 : Int).toNat * 2, none⟩ = some (.int .i64 ((rd_T109 x6_2 x7_2).f0)) := hcc16 0 _ rfl
                  have hx16_1 : wr.cell? ⟨go16, (x7_2 : Int).toNat * 2 + 1, none⟩ = some (.int .i64 ((rd_T109 x6_2 x7_2).f1)) := hcc16 1 _ rfl
                  have hf16_0 : wr.frozen? ⟨go16, (x7_2 : Int).toNat * 2, none⟩ = false := hfr16 0
                  have hf16_1 : wr.frozen? ⟨go16, (x7_2 : Int).toNat * 2 + 1, none⟩ = false := hfr16 1
                  clear hcl16 hcc16 hfr16 hM16
                  replace p16 := eq_true p16
                  replace q16 := eq_true q16
                  have HX18 := Aside0.mk (show Kd.R k109 109 wr w.heap.size (fun _ => True) (.slice (some ⟨go16, 0, none⟩) x6_2.length co17) x6_2 from (by (with_reducible repeat (first | apply Kd.R_alloc | apply Kd.R_drewN | apply Kd.R_drew)); exact HO_6.out))
                  obtain ⟨ce18, hcl18, hM18, hcc18, hfr18⟩ := Kd.R_elem HX18.out z109 (x7_2 : Int) (of_decide_eq_true (by first | (with_reducible assumption) | assumption)) (by have h_ : (x7_2 : Int) < ((x6_2.length : Int) : Int) := of_decide_eq_true (by first | (with_reducible assumption) | assumption); first | exact h_ | (have e_ := (Kd.R_reads' HO_6.out).1; omega) | simpa using h_)
                  obtain rfl := k109_openM hM18
                  have HP18 := Kd.R_seg HX18.out (x7_2 : Int) (of_decide_eq_true (by first | (with_reducible assumption) | assumption)) (by have h_ : (x7_2 : Int) < ((x6_2.length : Int) : Int) := of_decide_eq_true (by first | (with_reducible assumption) | assumption); first | exact h_ | (have e_ := (Kd.R_reads' HO_6.out).1; omega) | simpa using h_) (seg := [.int .i64 (wrap64 (((rd_T109 x6_2 x7_2).f0) + a1))]) (j := 0) hcl18 hcc18 (show 1 ≤ 2 from by decide) (x' := (⟨wrap64 (((rd_T109 x6_2 x7_2).f0) + a1), (rd_T109 x6_2 x7_2).f1⟩ : S109)) (k109_mkM _ _ _ (⟨wrap64 (((rd_T109 x6_2 x7_2).f0) + a1), (rd_T109 x6_2 x7_2).f1⟩ : S109) ) (fun _ hk => hk)
                  have hx18_0 := hcc18 0 _ rfl
                  (try simp only [show (k109).sz = 2 from rfl, Nat.mul_one, Nat.add_zero] at hx18_0)
                  have hf18_0 := hfr18 0
                  (try simp only [show (k109).sz = 2 from rfl, Nat.mul_one, Nat.add_zero] at hf18_0)
                  clear hcl18 hcc18 hfr18 hM18
                  go_wp2_with (first | ((with_reducible refine gate_store (t := 3) (p := 36) rfl ?_); refine store_event (t := 3) (p := 36) (v := ?vo_w19) (w1 := (wr.setCell ⟨go16, (x7_2 : Int).toNat * 2, none⟩ (.int .i64 (wrap64 (((rd_T109 x6_2 x7_2).f0) + a1))))) ?hg ?ho ?hn ?hr ?_; (case ho => rfl); (case hg => rfl); (case hn => rfl); (case hr => first | (go_simp; done) | (go_simp; rfl)); intro w19 hw; have hg : wr.grownBy w19 (some go16) := (by rw [hw]; exact HP18.2); have hp_ : Kd.R k109 109 w19 w.heap.size (fun _ => True) (.slice (some ⟨go16, 0, none⟩) x6_2.length co17) y327 := (by rw [hw, Ny327.out]; exact HP18.1); clear HP18; have n0_ := Aside0.mk (hp_); have n1_ := Aside0.mk ((by rw [hw]; exact below_set (HB.out) GB16.out : Below w.heap.size w w19)); clear HO_6; clear HB; have HO_6 := n0_; have HB := n1_; clear n0_ n1_; clear hg hw hp_))
                  go_roundg k2
                  case measure => have := HJ3.out; have := HK2.out; omega
                  case rel => exact ⟨(y327), (wrap64 (x7_2 + 1)), (by first | rfl | (simp; done) | (simp [*]; done)), H', ⟨by have := HJ3.out; have := HK2.out; omega⟩, ⟨by (with_reducible repeat (first | apply Kd.R_alloc | apply Kd.R_drewN | apply Kd.R_drew)); exact HO_6.out⟩, ⟨by repeat (first | (with_reducible first | exact HB.out | apply below_alloc | apply pw_below_drewN | apply below_drew1) | exact HB.out)⟩⟩
                · rw [if_neg c15] at H
                  exact absurd H (by simp)
              · rw [if_neg c14] at H
                have c14b0 : decide (x7_2 < (x6_2.length : Int)) = false := decide_eq_false c14
                clear c14
                replace H := Option.bind_eq_some_iff.mp H
                obtain ⟨t328, A200, H⟩ := H
                replace H : (if t328 = true then (some (x6_2, true)) else ((some (([] : List (S109)) : List (S109))).bind fun y329 => (if y329.length + l0.length < 8796093022208 then (some ((y329 ++ l0), false)) else (none)))) = some (r1, r2) := H
                have A20 := Aside0.mk A200
                clear A200
                by_cases c21 : t328 = true
                · subst c21
                  have H1 : (some (x6_2, true)) = some (r1, r2) := by rw [if_pos rfl] at H; exact H
                  clear H
                  have H := H1
                  clear H1
                  simp only [Option.some.injEq, Prod.mk.injEq] at H
                  obtain ⟨rfl, rfl⟩ := H
                  obtain ⟨Ao22, co22, eo22⟩ := Kd.R_slice HO_6.out
                  subst eo22
                  go_wp2_with (first | ((with_reducible refine gate_callee (f := 84) rfl ?_); refine goesL_ (some 38) rfl rfl Try.func84 (by kernel_rfl) rfl #[.slice Ao22 x6_2.length co22] rfl (by (try simp only [List.map_toArray, List.map_cons, List.map_nil]); first | done | rfl | (simp only [List.length_drop, List.length_take]; rfl)) ?_; (with_reducible refine (spec_IsPerformance.calls k2 _ _ x6_2 true _ ?side1 ?side2 A20.out).mono ?_); (case side1 => repeat (first | exact (Kd.R_reads' HO_6.out).2.2 | (with_reducible refine Kd.C_alloc ?_ _) | (with_reducible refine Kd.C_drewN ?_ _) | (with_reducible refine Kd.C_drew ?_))); (case side2 => exact (Kd.R_reads' HO_6.out).2.1); rintro e w23 ⟨rfl, hb⟩; refine ⟨_, rfl, ?_⟩; have n0_ := Aside0.mk (Kd.R_below (by (with_reducible repeat (first | apply Kd.R_alloc | apply Kd.R_drewN | apply Kd.R_drew)); exact HO_6.out) hb); have n1_ := Aside0.mk (below_step (by repeat (first | (with_reducible first | exact HB.out | apply below_alloc | apply pw_below_drewN | apply below_drew1) | exact HB.out)) hb); clear HO_6; clear HB; have HO_6 := n0_; have HB := n1_; clear n0_ n1_; (try clear hb); (try clear hb2); (try clear hk); (try clear hi)))
                  go_ret2
                  exact ⟨_, by first | rfl | (simp [errW_none, errW_some] <;> rfl) | (simp [*, errW_none, errW_some] <;> rfl), by (with_reducible repeat (first | apply Kd.R_alloc | apply Kd.R_drewN | apply Kd.R_drew)); exact HO_6.out, by repeat (first | (with_reducible first | exact HB.out | apply below_alloc | apply pw_below_drewN | apply below_drew1) | exact HB.out)⟩
                · replace c21 := Bool.eq_false_iff.mpr c21
                  subst c21
                  have H1 : ((some (([] : List (S109)) : List (S109))).bind fun y329 => (if y329.length + l0.length < 8796093022208 then (some ((y329 ++ l0), false)) else (none))) = some (r1, r2) := by rw [if_neg (show ¬ (false = true) by decide)] at H; exact H
                  clear H
                  have H := H1
                  clear H1
                  obtain ⟨y329, hy329⟩ : ∃ y_ : List (S109), y_ = (([] : List (S109))) := ⟨_, rfl⟩
                  replace H : (if y329.length + l0.length < 8796093022208 then (some ((y329 ++ l0), false)) else (none)) = some (r1, r2) := by first | (rw [hy329]; with_reducible exact H) | (have H2_ := (Option.bind_some _ _).symm.trans H; rw [hy329]; with_reducible exact H2_) | (have H2_ := (Option.bind_some _ _).symm.trans H; with_reducible exact H2_) | with_reducible exact H | (rw [hy329]; exact H) | exact H
                  have Ny329 := Aside0.mk hy329
                  clear hy329
                  by_cases c24 : y329.length + l0.length < 8796093022208
                  · rw [if_pos c24] at H
                    have LMc24 := Aside0.mk c24
                    clear c24
                    obtain ⟨y332, hy332⟩ : ∃ y_ : List (S109), y_ = (y329 ++ l0) := ⟨_, rfl⟩
                    replace H : (some (y332, false)) = some (r1, r2) := by first | (rw [hy332]; with_reducible exact H) | (have H2_ := (Option.bind_some _ _).symm.trans H; rw [hy332]; with_reducible exact H2_) | (have H2_ := (Option.bind_some _ _).symm.trans H; with_reducible exact H2_) | with_reducible exact H | (rw [hy332]; exact H) | exact H
                    have Ny332 := Aside0.mk hy332
                    clear hy332
                    simp only [Option.some.injEq, Prod.mk.injEq] at H
                    obtain ⟨rfl, rfl⟩ := H
                    obtain ⟨Ao25, co25, eo25⟩ := Kd.R_slice HO_6.out
                    subst eo25
                    go_wp2_with (first | ((with_reducible refine gate_callee (f := 84) rfl ?_); refine goesL_ (some 38) rfl rfl Try.func84 (by kernel_rfl) rfl #[.slice Ao25 x6_2.length co25] rfl (by (try simp only [List.map_toArray, List.map_cons, List.map_nil]); first | done | rfl | (simp only [List.length_drop, List.length_take]; rfl)) ?_; (with_reducible refine (spec_IsPerformance.calls k2 _ _ x6_2 false _ ?side1 ?side2 A20.out).mono ?_); (case side1 => repeat (first | exact (Kd.R_reads' HO_6.out).2.2 | (with_reducible refine Kd.C_alloc ?_ _) | (with_reducible refine Kd.C_drewN ?_ _) | (with_reducible refine Kd.C_drew ?_))); (case side2 => exact (Kd.R_reads' HO_6.out).2.1); rintro e w26 ⟨rfl, hb⟩; refine ⟨_, rfl, ?_⟩; have n0_ := Aside0.mk (Kd.R_below (by (with_reducible repeat (first | apply Kd.R_alloc | apply Kd.R_drewN | apply Kd.R_drew)); exact HO_6.out) hb); have n1_ := Aside0.mk (below_step (by repeat (first | (with_reducible first | exact HB.out | apply below_alloc | apply pw_below_drewN | apply below_drew1) | exact HB.out)) hb); clear HO_6; clear HB; have HO_6 := n0_; have HB := n1_; clear n0_ n1_; (try clear hb); (try clear hb2); (try clear hk); (try clear hi)) | ((with_reducible refine gate_dst (N := 40) rfl ?_); refine Kd.R_lit k109 _ 109 ?hg (N := 40) ?hd (xs := ([] : List (S109))) (inner := []) (ok := fun _ => True) (okp := fun _ => True) ?hr ?hp (fun _ hk => hk) trivial (Below.refl _ _) (Nat.le_refl _) (by simp) ?_; (case hd => rfl); (case hg => rfl); (case hr => first | (go_simp; done) | (go_simp; rfl)); (case hp => exact (Reps.none _ _)); intro v330 w27 ho28 hb hg_ hnew_; clear hg_ hnew_; (first | rw [← Ny329.out] at ho28 | (simp only [Int.reduceToNat] at ho28; rw [← Ny329.out] at ho28)); have n0_ := Aside0.mk (Kd.R_elder' (by (with_reducible repeat (first | apply Kd.R_alloc | apply Kd.R_drewN | apply Kd.R_drew)); exact HO_6.out) (Kd.R_base ho28) hb); have n1_ := Aside0.mk (Kd.R_lower (Kd.R_new' ho28 (Kd.R_lt (by (with_reducible repeat (first | apply Kd.R_alloc | apply Kd.R_drewN | apply Kd.R_drew)); exact HO_6.out))) (below_size (by repeat (first | (with_reducible first | exact HB.out | apply below_alloc | apply pw_below_drewN | apply below_drew1) | exact HB.out)))); have n2_ := Aside0.mk (below_step (by repeat (first | (with_reducible first | exact HB.out | apply below_alloc | apply pw_below_drewN | apply below_drew1) | exact HB.out)) hb); clear HO_6; clear HB; have HO_6 := n0_; have HO331 := n1_; have HB := n2_; clear n0_ n1_ n2_; clear hb ho28) | ((with_reducible refine gate_builtin (b := .append) (xs := #[.tmp 40, .tmp 41]) rfl ?_); at_builtin; refine Kd.R_append_rows k109 (w0 := w) w.heap.size rfl (.tmp 40) (.tmp 41) 37 109 (.agg #[(.int .i64 0), (.int .i64 0)]) 16 rfl Try.underlying37 info109 rfl (by decide) (by omega) v330 y329 l0 _ _ _ (fun k_ => some k_ ≠ (.slice Ao25 x6_2.length co25 : Value).ownBlock) (fun _ => False) rfl rfl ?aO ?aR (fun _ _ h => h) (fun _ h => h.elim) ?aF ?aB ?aS ?aL ?_; (case aR => repeat (first | exact (Kd.C_below HR0.out HB.out) | (with_reducible refine Kd.C_alloc ?_ _) | (with_reducible refine Kd.C_drewN ?_ _) | (with_reducible refine Kd.C_drew ?_))); (case aB => exact (by repeat (first | (with_reducible first | exact HB.out | apply below_alloc | apply pw_below_drewN | apply below_drew1) | exact HB.out))); (case aF => exact (fun k_ hk => Kd.fresh' (Kd.R_lt (by (with_reducible repeat (first | apply Kd.R_alloc | apply Kd.R_drewN | apply Kd.R_drew)); exact HO_6.out)) k_ hk)); (case aO => exact (by (with_reducible repeat (first | apply Kd.R_alloc | apply Kd.R_drewN | apply Kd.R_drew)); exact Kd.R_mono HO331.out (fun _ hk => hk.2))); (case aS => exact (below_size (by repeat (first | (with_reducible first | exact HB.out | apply below_alloc | apply pw_below_drewN | apply below_drew1) | exact HB.out)))); (case aL => have := LMc24.out; omega); intro v333 w29 ho hb hg hat; rw [← Ny332.out] at ho; have n0_ := Aside0.mk (Kd.R_after (ok := (fun _ => True)) (by (with_reducible repeat (first | apply Kd.R_alloc | apply Kd.R_drewN | apply Kd.R_drew)); exact HO_6.out) hg hat); have n1_ := Aside0.mk (hb); have n2_ := Aside0.mk (ho); clear HO_6; clear HB; clear HO331; have HO_6 := n0_; have HB := n1_; have HO334 := n2_; clear n0_ n1_ n2_; clear ho hb hg hat))
                    go_ret2
                    exact ⟨_, by first | rfl | (simp [errW_none, errW_some] <;> rfl) | (simp [*, errW_none, errW_some] <;> rfl), by (with_reducible repeat (first | apply Kd.R_alloc | apply Kd.R_drewN | apply Kd.R_drew)); exact Kd.R_mono HO334.out (fun _ hk => trivial), by repeat (first | (with_reducible first | exact HB.out | apply below_alloc | apply pw_below_drewN | apply below_drew1) | exact HB.out)⟩
                  · rw [if_neg c24] at H
                    exact absurd H (by simp)
  · rw [if_neg c3] at H
    exact absurd H (by simp)

end Go.Proofs.Ytiophiipmgpaeaa.F
