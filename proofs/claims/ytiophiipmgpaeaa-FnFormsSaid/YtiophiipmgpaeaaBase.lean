/- Small words on the printed functions: counting up, reading a list's element. -/
import Derived.Test.YtiophiipmgpaeaaSay
namespace Go.Proofs.Ytiophiipmgpaeaa.F
open Go.RowKit Go.Proofs.Ytiophiipmgpaeaa.Opened Go.Proofs.YtiophiipmgpaeaaW.PrintWords Go.Proofs.YtiophiipmgpaeaaW.PrintLast
set_option linter.unusedVariables false
set_option linter.unusedSimpArgs false

theorem w1 {n m : Nat} (h : n < m) (hm : m ≤ 9223372036854775807) : wrap64 ((n : Int) + 1) = ((n + 1 : Nat) : Int) := by unfold wrap64; omega
theorem w1i {i m : Int} (h0 : 0 ≤ i) (h : i < m) (hm : m ≤ 9223372036854775807) : wrap64 (i + 1) = i + 1 := by unfold wrap64; omega
theorem wid {x : Int} (h0 : -9223372036854775808 ≤ x) (h1 : x ≤ 9223372036854775807) : wrap64 x = x := by unfold wrap64; omega
theorem wI {x : Int} (h : I64 x) : wrap64 x = x := wid h.1 h.2
theorem bind_left {α β : Type} {a a' : Option α} (f : α → Option β) (h : a = a') : a.bind f = a'.bind f := by rw [h]
theorem take_next {α : Type} {l : List α} {n : Nat} (h : n < l.length) : l.take (n + 1) = l.take n ++ [l[n]] := by rw [List.take_succ_eq_append_getElem h]
theorem set_take {α : Type} (acc : List α) (n : Nat) (v : α) (h : n < acc.length) : (acc.set n v).take (n + 1) = acc.take n ++ [v] := by
  rw [List.take_succ_eq_append_getElem (by simpa using h), List.take_set, List.set_eq_of_length_le (by rw [List.length_take]; omega)]
  simp
theorem rd_nat (xs : List Int) (n : Nat) (h : n < xs.length) : rd xs (n : Int) = xs[n] := by simp [rd, h]
theorem rdT103 (xs : List S103) (n : Nat) (h : n < xs.length) : rd_T103 xs (n : Int) = xs[n] := by simp [rd_T103, h]
theorem rdT105 (xs : List S105) (n : Nat) (h : n < xs.length) : rd_T105 xs (n : Int) = xs[n] := by simp [rd_T105, h]
theorem rdT109 (xs : List S109) (n : Nat) (h : n < xs.length) : rd_T109 xs (n : Int) = xs[n] := by simp [rd_T109, h]
theorem rdT111 (xs : List S111) (n : Nat) (h : n < xs.length) : rd_T111 xs (n : Int) = xs[n] := by simp [rd_T111, h]
theorem rdT116 (xs : List S116) (n : Nat) (h : n < xs.length) : rd_T116 xs (n : Int) = xs[n] := by simp [rd_T116, h]
theorem rdT118 (xs : List S118) (n : Nat) (h : n < xs.length) : rd_T118 xs (n : Int) = xs[n] := by simp [rd_T118, h]
theorem rdT120 (xs : List S120) (n : Nat) (h : n < xs.length) : rd_T120 xs (n : Int) = xs[n] := by simp [rd_T120, h]
theorem rdT126 (xs : List S126) (n : Nat) (h : n < xs.length) : rd_T126 xs (n : Int) = xs[n] := by simp [rd_T126, h]
theorem rdT140 (xs : List S140) (n : Nat) (h : n < xs.length) : rd_T140 xs (n : Int) = xs[n] := by simp [rd_T140, h]
theorem rdT142 (xs : List S142) (n : Nat) (h : n < xs.length) : rd_T142 xs (n : Int) = xs[n] := by simp [rd_T142, h]
theorem rdT152 (xs : List S152) (n : Nat) (h : n < xs.length) : rd_T152 xs (n : Int) = xs[n] := by simp [rd_T152, h]
theorem rdT154 (xs : List S154) (n : Nat) (h : n < xs.length) : rd_T154 xs (n : Int) = xs[n] := by simp [rd_T154, h]

end Go.Proofs.Ytiophiipmgpaeaa.F
