/- Small words on the printed functions: counting up, reading a list's element. -/
import Derived.Test.YtbhlmeghbfmgiaaSay
namespace Go.Proofs.Ytbhlmeghbfmgiaa.F
open Go.RowKit Go.Proofs.Ytbhlmeghbfmgiaa.Opened Go.Proofs.YtbhlmeghbfmgiaaW.PrintWords Go.Proofs.YtbhlmeghbfmgiaaW.PrintLast
set_option linter.unusedVariables false
set_option linter.unusedSimpArgs false

theorem w1 {n m : Nat} (h : n < m) (hm : m ≤ 9223372036854775807) : wrap64 ((n : Int) + 1) = ((n + 1 : Nat) : Int) := by unfold wrap64; omega
theorem w1i {i m : Int} (h0 : 0 ≤ i) (h : i < m) (hm : m ≤ 9223372036854775807) : wrap64 (i + 1) = i + 1 := by unfold wrap64; omega
theorem wid {x : Int} (h0 : -9223372036854775808 ≤ x) (h1 : x ≤ 9223372036854775807) : wrap64 x = x := by unfold wrap64; omega
theorem wI {x : Int} (h : I64 x) : wrap64 x = x := wid h.1 h.2
theorem bind_left {α β : Type} {a a' : Option α} (f : α → Option β) (h : a = a') : a.bind f = a'.bind f := by rw [h]
theorem take_next {α : Type} {l : List α} {n : Nat} (h : n < l.length) : l.take (n + 1) = l.take n ++ [l[n]] := by rw [List.take_succ_eq_append_getElem h]
theorem set_take {α : Type} (acc : List α) (n : Nat) (v : α) (h : n < acc.length) : (acc.set n v).take (n + 1) = acc.take n ++ [v] := by
  rw [List.take_succ_eq_append_getElem (by simpa using h), List.take_set, List.set_eq_of_length_le (by rw [List.length_take]; omega)]
  simp
theorem rd_nat (xs : List Int) (n : Nat) (h : n < xs.length) : rd xs (n : Int) = xs[n] := by simp [rd, h]
theorem rdT26 (xs : List S26) (n : Nat) (h : n < xs.length) : rd_T26 xs (n : Int) = xs[n] := by simp [rd_T26, h]
theorem rdT49 (xs : List S49) (n : Nat) (h : n < xs.length) : rd_T49 xs (n : Int) = xs[n] := by simp [rd_T49, h]
theorem rdT63 (xs : List S63) (n : Nat) (h : n < xs.length) : rd_T63 xs (n : Int) = xs[n] := by simp [rd_T63, h]
theorem rdT86 (xs : List S86) (n : Nat) (h : n < xs.length) : rd_T86 xs (n : Int) = xs[n] := by simp [rd_T86, h]
theorem rdT111 (xs : List S111) (n : Nat) (h : n < xs.length) : rd_T111 xs (n : Int) = xs[n] := by simp [rd_T111, h]
theorem rdT151 (xs : List S151) (n : Nat) (h : n < xs.length) : rd_T151 xs (n : Int) = xs[n] := by simp [rd_T151, h]

end Go.Proofs.Ytbhlmeghbfmgiaa.F
