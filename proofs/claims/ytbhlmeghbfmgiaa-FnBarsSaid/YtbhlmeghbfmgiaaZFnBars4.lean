/- FnBars, part 4 of 6: texts of the claim, joined into one file. -/
import Derived.Test.YtbhlmeghbfmgiaaZFnBars3

namespace Go.Proofs.Ytbhlmeghbfmgiaa.F
open Go.RowKit Go.Proofs.YtbhlmeghbfmgiaaW.PrintWords Go.Proofs.YtbhlmeghbfmgiaaW.PrintLast Go.Proofs.YtbhlmeghbfmgiaaW.PrintMore
attribute [local go_sem] max2_int min2_int max_two min_two max_three min_three max_four min_four
set_option linter.unusedVariables false
set_option linter.unusedSimpArgs false
mutual
def impl_PiecesOf.j0 : Nat → List (S86) → Bool → Int → Int → Int → Int → Int → Int → Option ((List (S86)))
 | 0, _, _, _, _, _, _, _, _ => none
 | k + 1, x5, x25, x1366000, x1366001, x1367000, x1367001, x1367002, x1367003 => if x25 = true then (some x5) else ((impl_BarLong.f x1366000 x1366001).bind fun t1373 => (impl_PiecesOf.l0 k x5 t1373 x1367000 (wrap64 (x1367000 + x1367001))))
def impl_PiecesOf.l0 : Nat → List (S86) → Int → Int → Int → Option ((List (S86)))
 | 0, _, _, _, _ => none
 | k + 1, x5, x6, x7, x8 => if x7 < x8 then (if x6 = 0 then (none) else (if x5.length < 5864062014805 then (impl_PiecesOf.l0 k (x5 ++ [(⟨x7, wrap64 ((mn (wrap64 ((wrap64 (x7 - (Int.tmod x7 x6))) + x6)) x8) - x7), decide ((mn (wrap64 ((wrap64 (x7 - (Int.tmod x7 x6))) + x6)) x8) < x8)⟩ : S86)]) x6 (mn (wrap64 ((wrap64 (x7 - (Int.tmod x7 x6))) + x6)) x8) x8) else (none))) else (some x5)
end
def impl_PiecesOf.f (k : Nat) (a0_0 : Int) (a0_1 : Int) (a1_0 : Int) (a1_1 : Int) (a1_2 : Int) (a1_3 : Int) : Option ((List (S86))) := (some (([] : List (S86)) : List (S86))).bind fun y1367 => ((impl_IsMeter.f a0_0 a0_1).bind fun t1370 => (if t1370 = true then ((impl_InRange.f a1_0 0 2000).bind fun t1371 => (if t1371 = true then ((impl_InRange.f a1_1 1 96).bind fun t1372 => (impl_PiecesOf.j0 k y1367 (!t1372) a0_0 a0_1 a1_0 a1_1 a1_2 a1_3)) else (impl_PiecesOf.j0 k y1367 true a0_0 a0_1 a1_0 a1_1 a1_2 a1_3))) else (impl_PiecesOf.j0 k y1367 true a0_0 a0_1 a1_0 a1_1 a1_2 a1_3)))
set_option maxHeartbeats 8000000 in
set_option maxRecDepth 100000 in
theorem impl_PiecesOf.calls (k : Nat) (a0_0 : Int) (a0_1 : Int) (a1_0 : Int) (a1_1 : Int) (a1_2 : Int) (a1_3 : Int) (r : List (S86)) (w : World) (h : impl_PiecesOf.f k a0_0 a0_1 a1_0 a1_1 a1_2 a1_3 = some r) :
  Calls Try.prog 50 #[.agg #[.int .i64 a0_0, .int .i64 a0_1], .agg #[.int .i64 a1_0, .int .i64 a1_1, .int .i64 a1_2, .int .i64 a1_3]] w fun e w' => ∃ v0_ : Value, e = .returned (v0_) ∧ Kd.R k86 86 w' w.heap.size (fun _ => True) v0_ r ∧ Below w.heap.size w w' := by
 have hu73 := Try.underlying73
 have hu26 := Try.underlying26
 have hu86 := Try.underlying86
 have HB := Aside0.mk (Below.refl w.heap.size w)
 have H : ((some (([] : List (S86)) : List (S86))).bind fun y1367 => ((impl_IsMeter.f a0_0 a0_1).bind fun t1370 => (if t1370 = true then ((impl_InRange.f a1_0 0 2000).bind fun t1371 => (if t1371 = true then ((impl_InRange.f a1_1 1 96).bind fun t1372 => (impl_PiecesOf.j0 k y1367 (!t1372) a0_0 a0_1 a1_0 a1_1 a1_2 a1_3)) else (impl_PiecesOf.j0 k y1367 true a0_0 a0_1 a1_0 a1_1 a1_2 a1_3))) else (impl_PiecesOf.j0 k y1367 true a0_0 a0_1 a1_0 a1_1 a1_2 a1_3)))) = some r := h
 clear h
 obtain ⟨y1367, hy1367⟩ : ∃ y_ : List (S86), y_ = (([] : List (S86))) := ⟨_, rfl⟩
 replace H : ((impl_IsMeter.f a0_0 a0_1).bind fun t1370 => (if t1370 = true then ((impl_InRange.f a1_0 0 2000).bind fun t1371 => (if t1371 = true then ((impl_InRange.f a1_1 1 96).bind fun t1372 => (impl_PiecesOf.j0 k y1367 (!t1372) a0_0 a0_1 a1_0 a1_1 a1_2 a1_3)) else (impl_PiecesOf.j0 k y1367 true a0_0 a0_1 a1_0 a1_1 a1_2 a1_3))) else (impl_PiecesOf.j0 k y1367 true a0_0 a0_1 a1_0 a1_1 a1_2 a1_3))) = some r := by first | (rw [hy1367]; with_reducible exact H) | (have H2_ := (Option.bind_some _ _).symm.trans H; rw [hy1367]; with_reducible exact H2_) | (have H2_ := (Option.bind_some _ _).symm.trans H; with_reducible exact H2_) | with_reducible exact H | (rw [hy1367]; exact H) | exact H
 have Ny1367 := Aside0.mk hy1367
 clear hy1367
 have HC3 := Aside0.mk H
 clear H
 go_enter Try.func50, Try.ntmps50
 go_upto_region 2 with (first | ((with_reducible refine gate_dst (N := 2) rfl ?_); refine box_event ?hg (N := 2) ?hd (cs := #[.int .i64 a0_0, .int .i64 a0_1]) (t := 73) ?hr ?_; (case hd => rfl); (case hg => rfl); (case hr => first | (go_simp; done) | (go_simp; rfl)); intro gb1365 hg w4 hbox hb; have n0_ := Aside0.mk (below_step (by repeat (first | (with_reducible first | exact HB.out | apply below_alloc | apply pw_below_drewN | apply below_drew1) | exact HB.out)) hb); have n1_ := Aside0.mk (hbox); have n2_ := Aside0.mk ((by rw [hg]; exact (below_size (by repeat (first | (with_reducible first | exact HB.out | apply below_alloc | apply pw_below_drewN | apply below_drew1) | exact HB.out))) : w.heap.size ≤ gb1365)); have n3_ := Aside0.mk ((by rw [hg]; exact (below_size (by repeat (first | (with_reducible first | exact HB.out | apply below_alloc | apply pw_below_drewN | apply below_drew1) | exact HB.out))) : w.heap.size ≤ gb1365)); clear HB; have HB := n0_; have BK1365 := n1_; have GW1365 := n2_; have GE1365 := n3_; clear n0_ n1_ n2_ n3_; clear hb hbox hg) | ((with_reducible refine gate_dst (N := 3) rfl ?_); refine box_event ?hg (N := 3) ?hd (cs := #[.int .i64 a1_0, .int .i64 a1_1, .int .i64 a1_2, .int .i64 a1_3]) (t := 26) ?hr ?_; (case hd => rfl); (case hg => rfl); (case hr => first | (go_simp; done) | (go_simp; rfl)); intro gb1366 hg w5 hbox hb; have n0_ := Aside0.mk (blk_below (g := gb1365) (o := .cells #[.int .i64 a0_0, .int .i64 a0_1] 73 (0, 0)) (by (with_reducible repeat (first | refine blk_drewN ?_ _ | refine blk_drew ?_ | refine blk_alloc ?_ _)); exact BK1365.out) hb); have n1_ := Aside0.mk (below_step (by repeat (first | (with_reducible first | exact HB.out | apply below_alloc | apply pw_below_drewN | apply below_drew1 | refine below_set ?_ GE1365.out) | exact HB.out)) hb); have n2_ := Aside0.mk (hbox); have n3_ := Aside0.mk ((by rw [hg]; exact (below_size (by repeat (first | (with_reducible first | exact HB.out | apply below_alloc | apply pw_below_drewN | apply below_drew1 | refine below_set ?_ GE1365.out) | exact HB.out))) : w.heap.size ≤ gb1366)); have n4_ := Aside0.mk ((by rw [hg]; exact (below_size (by repeat (first | (with_reducible first | exact HB.out | apply below_alloc | apply pw_below_drewN | apply below_drew1 | refine below_set ?_ GE1365.out) | exact HB.out))) : w.heap.size ≤ gb1366)); have n5_ := Aside0.mk ((by rw [hg]; exact Nat.ne_of_lt (blk_lt (g := gb1365) (o := .cells #[.int .i64 a0_0, .int .i64 a0_1] 73 (0, 0)) (by (with_reducible repeat (first | refine blk_drewN ?_ _ | refine blk_drew ?_ | refine blk_alloc ?_ _)); exact BK1365.out)) : gb1365 ≠ gb1366)); have n6_ := Aside0.mk ((by rw [hg]; exact Nat.ne_of_gt (blk_lt (g := gb1365) (o := .cells #[.int .i64 a0_0, .int .i64 a0_1] 73 (0, 0)) (by (with_reducible repeat (first | refine blk_drewN ?_ _ | refine blk_drew ?_ | refine blk_alloc ?_ _)); exact BK1365.out)) : gb1366 ≠ gb1365)); clear BK1365; clear HB; have BK1365 := n0_; have HB := n1_; have BK1366 := n2_; have GW1366 := n3_; have GE1366 := n4_; have NB1365_1366 := n5_; have NB1366_1365 := n6_; clear n0_ n1_ n2_ n3_ n4_ n5_ n6_; clear hb hbox hg) | ((with_reducible refine gate_dst (N := 10) rfl ?_); refine Kd.R_lit k86 _ 86 ?hg (N := 10) ?hd (xs := ([] : List (S86))) (inner := []) (ok := fun _ => True) (okp := fun _ => True) ?hr ?hp (fun _ hk => hk) trivial (Below.refl _ _) (Nat.le_refl _) (by simp) ?_; (case hd => rfl); (case hg => rfl); (case hr => first | (go_simp; done) | (go_simp; rfl)); (case hp => exact (Reps.none _ _)); intro v1368 w6 ho7 hb hg_ hnew_; clear hg_ hnew_; (first | rw [← Ny1367.out] at ho7 | (simp only [Int.reduceToNat] at ho7; rw [← Ny1367.out] at ho7)); have n0_ := Aside0.mk (Kd.R_lower ho7 (below_size (by repeat (first | (with_reducible first | exact HB.out | apply below_alloc | apply pw_below_drewN | apply below_drew1 | refine below_set ?_ GE1365.out | refine below_set ?_ GE1366.out) | exact HB.out)))); have n1_ := Aside0.mk (blk_below (g := gb1365) (o := .cells #[.int .i64 a0_0, .int .i64 a0_1] 73 (0, 0)) (by (with_reducible repeat (first | refine blk_drewN ?_ _ | refine blk_drew ?_ | refine blk_alloc ?_ _)); exact BK1365.out) hb); have n2_ := Aside0.mk (blk_below (g := gb1366) (o := .cells #[.int .i64 a1_0, .int .i64 a1_1, .int .i64 a1_2, .int .i64 a1_3] 26 (0, 0)) (by (with_reducible repeat (first | refine blk_drewN ?_ _ | refine blk_drew ?_ | refine blk_alloc ?_ _)); exact BK1366.out) hb); have n3_ := Aside0.mk (below_step (by repeat (first | (with_reducible first | exact HB.out | apply below_alloc | apply pw_below_drewN | apply below_drew1 | refine below_set ?_ GE1365.out | refine below_set ?_ GE1366.out) | exact HB.out)) hb); clear BK1365; clear BK1366; clear HB; have HO1369 := n0_; have BK1365 := n1_; have BK1366 := n2_; have HB := n3_; clear n0_ n1_ n2_ n3_; clear hb ho7))
 repeat (go_quiet (first | ((with_reducible refine gate_dst (N := 2) rfl ?_); refine box_event ?hg (N := 2) ?hd (cs := #[.int .i64 a0_0, .int .i64 a0_1]) (t := 73) ?hr ?_; (case hd => rfl); (case hg => rfl); (case hr => first | (go_simp; done) | (go_simp; rfl)); intro gb1365 hg w4 hbox hb; have n0_ := Aside0.mk (below_step (by repeat (first | (with_reducible first | exact HB.out | apply below_alloc | apply pw_below_drewN | apply below_drew1) | exact HB.out)) hb); have n1_ := Aside0.mk (hbox); have n2_ := Aside0.mk ((by rw [hg]; exact (below_size (by repeat (first | (with_reducible first | exact HB.out | apply below_alloc | apply pw_below_drewN | apply below_drew1) | exact HB.out))) : w.heap.size ≤ gb1365)); have n3_ := Aside0.mk ((by rw [hg]; exact (below_size (by repeat (first | (with_reducible first | exact HB.out | apply below_alloc | apply pw_below_drewN | apply below_drew1) | exact HB.out))) : w.heap.size ≤ gb1365)); clear HB; have HB := n0_; have BK1365 := n1_; have GW1365 := n2_; have GE1365 := n3_; clear n0_ n1_ n2_ n3_; clear hb hbox hg) | ((with_reducible refine gate_dst (N := 3) rfl ?_); refine box_event ?hg (N := 3) ?hd (cs := #[.int .i64 a1_0, .int .i64 a1_1, .int .i64 a1_2, .int .i64 a1_3]) (t := 26) ?hr ?_; (case hd => rfl); (case hg => rfl); (case hr => first | (go_simp; done) | (go_simp; rfl)); intro gb1366 hg w5 hbox hb; have n0_ := Aside0.mk (blk_below (g := gb1365) (o := .cells #[.int .i64 a0_0, .int .i64 a0_1] 73 (0, 0)) (by (with_reducible repeat (first | refine blk_drewN ?_ _ | refine blk_drew ?_ | refine blk_alloc ?_ _)); exact BK1365.out) hb); have n1_ := Aside0.mk (below_step (by repeat (first | (with_reducible first | exact HB.out | apply below_alloc | apply pw_below_drewN | apply below_drew1 | refine below_set ?_ GE1365.out) | exact HB.out)) hb); have n2_ := Aside0.mk (hbox); have n3_ := Aside0.mk ((by rw [hg]; exact (below_size (by repeat (first | (with_reducible first | exact HB.out | apply below_alloc | apply pw_below_drewN | apply below_drew1 | refine below_set ?_ GE1365.out) | exact HB.out))) : w.heap.size ≤ gb1366)); have n4_ := Aside0.mk ((by rw [hg]; exact (below_size (by repeat (first | (with_reducible first | exact HB.out | apply below_alloc | apply pw_below_drewN | apply below_drew1 | refine below_set ?_ GE1365.out) | exact HB.out))) : w.heap.size ≤ gb1366)); have n5_ := Aside0.mk ((by rw [hg]; exact Nat.ne_of_lt (blk_lt (g := gb1365) (o := .cells #[.int .i64 a0_0, .int .i64 a0_1] 73 (0, 0)) (by (with_reducible repeat (first | refine blk_drewN ?_ _ | refine blk_drew ?_ | refine blk_alloc ?_ _)); exact BK1365.out)) : gb1365 ≠ gb1366)); have n6_ := Aside0.mk ((by rw [hg]; exact Nat.ne_of_gt (blk_lt (g := gb1365) (o := .cells #[.int .i64 a0_0, .int .i64 a0_1] 73 (0, 0)) (by (with_reducible repeat (first | refine blk_drewN ?_ _ | refine blk_drew ?_ | refine blk_alloc ?_ _)); exact BK1365.out)) : gb1366 ≠ gb1365)); clear BK1365; clear HB; have BK1365 := n0_; have HB := n1_; have BK1366 := n2_; have GW1366 := n3_; have GE1366 := n4_; have NB1365_1366 := n5_; have NB1366_1365 := n6_; clear n0_ n1_ n2_ n3_ n4_ n5_ n6_; clear hb hbox hg) | ((with_reducible refine gate_dst (N := 10) rfl ?_); refine Kd.R_lit k86 _ 86 ?hg (N := 10) ?hd (xs := ([] : List (S86))) (inner := []) (ok := fun _ => True) (okp := fun _ => True) ?hr ?hp (fun _ hk => hk) trivial (Below.refl _ _) (Nat.le_refl _) (by simp) ?_; (case hd => rfl); (case hg => rfl); (case hr => first | (go_simp; done) | (go_simp; rfl)); (case hp => exact (Reps.none _ _)); intro v1368 w6 ho7 hb hg_ hnew_; clear hg_ hnew_; (first | rw [← Ny1367.out] at ho7 | (simp only [Int.reduceToNat] at ho7; rw [← Ny1367.out] at ho7)); have n0_ := Aside0.mk (Kd.R_lower ho7 (below_size (by repeat (first | (with_reducible first | exact HB.out | apply below_alloc | apply pw_below_drewN | apply below_drew1 | refine below_set ?_ GE1365.out | refine below_set ?_ GE1366.out) | exact HB.out)))); have n1_ := Aside0.mk (blk_below (g := gb1365) (o := .cells #[.int .i64 a0_0, .int .i64 a0_1] 73 (0, 0)) (by (with_reducible repeat (first | refine blk_drewN ?_ _ | refine blk_drew ?_ | refine blk_alloc ?_ _)); exact BK1365.out) hb); have n2_ := Aside0.mk (blk_below (g := gb1366) (o := .cells #[.int .i64 a1_0, .int .i64 a1_1, .int .i64 a1_2, .int .i64 a1_3] 26 (0, 0)) (by (with_reducible repeat (first | refine blk_drewN ?_ _ | refine blk_drew ?_ | refine blk_alloc ?_ _)); exact BK1366.out) hb); have n3_ := Aside0.mk (below_step (by repeat (first | (with_reducible first | exact HB.out | apply below_alloc | apply pw_below_drewN | apply below_drew1 | refine below_set ?_ GE1365.out | refine below_set ?_ GE1366.out) | exact HB.out)) hb); clear BK1365; clear BK1366; clear HB; have HO1369 := n0_; have BK1365 := n1_; have BK1366 := n2_; have HB := n3_; clear n0_ n1_ n2_ n3_; clear hb ho7)); go_upto_region 2 with (first | ((with_reducible refine gate_dst (N := 2) rfl ?_); refine box_event ?hg (N := 2) ?hd (cs := #[.int .i64 a0_0, .int .i64 a0_1]) (t := 73) ?hr ?_; (case hd => rfl); (case hg => rfl); (case hr => first | (go_simp; done) | (go_simp; rfl)); intro gb1365 hg w4 hbox hb; have n0_ := Aside0.mk (below_step (by repeat (first | (with_reducible first | exact HB.out | apply below_alloc | apply pw_below_drewN | apply below_drew1) | exact HB.out)) hb); have n1_ := Aside0.mk (hbox); have n2_ := Aside0.mk ((by rw [hg]; exact (below_size (by repeat (first | (with_reducible first | exact HB.out | apply below_alloc | apply pw_below_drewN | apply below_drew1) | exact HB.out))) : w.heap.size ≤ gb1365)); have n3_ := Aside0.mk ((by rw [hg]; exact (below_size (by repeat (first | (with_reducible first | exact HB.out | apply below_alloc | apply pw_below_drewN | apply below_drew1) | exact HB.out))) : w.heap.size ≤ gb1365)); clear HB; have HB := n0_; have BK1365 := n1_; have GW1365 := n2_; have GE1365 := n3_; clear n0_ n1_ n2_ n3_; clear hb hbox hg) | ((with_reducible refine gate_dst (N := 3) rfl ?_); refine box_event ?hg (N := 3) ?hd (cs := #[.int .i64 a1_0, .int .i64 a1_1, .int .i64 a1_2, .int .i64 a1_3]) (t := 26) ?hr ?_; (case hd => rfl); (case hg => rfl); (case hr => first | (go_simp; done) | (go_simp; rfl)); intro gb1366 hg w5 hbox hb; have n0_ := Aside0.mk (blk_below (g := gb1365) (o := .cells #[.int .i64 a0_0, .int .i64 a0_1] 73 (0, 0)) (by (with_reducible repeat (first | refine blk_drewN ?_ _ | refine blk_drew ?_ | refine blk_alloc ?_ _)); exact BK1365.out) hb); have n1_ := Aside0.mk (below_step (by repeat (first | (with_reducible first | exact HB.out | apply below_alloc | apply pw_below_drewN | apply below_drew1 | refine below_set ?_ GE1365.out) | exact HB.out)) hb); have n2_ := Aside0.mk (hbox); have n3_ := Aside0.mk ((by rw [hg]; exact (below_size (by repeat (first | (with_reducible first | exact HB.out | apply below_alloc | apply pw_below_drewN | apply below_drew1 | refine below_set ?_ GE1365.out) | exact HB.out))) : w.heap.size ≤ gb1366)); have n4_ := Aside0.mk ((by rw [hg]; exact (below_size (by repeat (first | (with_reducible first | exact HB.out | apply below_alloc | apply pw_below_drewN | apply below_drew1 | refine below_set ?_ GE1365.out) | exact HB.out))) : w.heap.size ≤ gb1366)); have n5_ := Aside0.mk ((by rw [hg]; exact Nat.ne_of_lt (blk_lt (g := gb1365) (o := .cells #[.int .i64 a0_0, .int .i64 a0_1] 73 (0, 0)) (by (with_reducible repeat (first | refine blk_drewN ?_ _ | refine blk_drew ?_ | refine blk_alloc ?_ _)); exact BK1365.out)) : gb1365 ≠ gb1366)); have n6_ := Aside0.mk ((by rw [hg]; exact Nat.ne_of_gt (blk_lt (g := gb1365) (o := .cells #[.int .i64 a0_0, .int .i64 a0_1] 73 (0, 0)) (by (with_reducible repeat (first | refine blk_drewN ?_ _ | refine blk_drew ?_ | refine blk_alloc ?_ _)); exact BK1365.out)) : gb1366 ≠ gb1365)); clear BK1365; clear HB; have BK1365 := n0_; have HB := n1_; have BK1366 := n2_; have GW1366 := n3_; have GE1366 := n4_; have NB1365_1366 := n5_; have NB1366_1365 := n6_; clear n0_ n1_ n2_ n3_ n4_ n5_ n6_; clear hb hbox hg) | ((with_reducible refine gate_dst (N := 10) rfl ?_); refine Kd.R_lit k86 _ 86 ?hg (N := 10) ?hd (xs := ([] : List (S86))) (inner := []) (ok := fun _ => True) (okp := fun _ => True) ?hr ?hp (fun _ hk => hk) trivial (Below.refl _ _) (Nat.le_refl _) (by simp) ?_; (case hd => rfl); (case hg => rfl); (case hr => first | (go_simp; done) | (go_simp; rfl)); (case hp => exact (Reps.none _ _)); intro v1368 w6 ho7 hb hg_ hnew_; clear hg_ hnew_; (first | rw [← Ny1367.out] at ho7 | (simp only [Int.reduceToNat] at ho7; rw [← Ny1367.out] at ho7)); have n0_ := Aside0.mk (Kd.R_lower ho7 (below_size (by repeat (first | (with_reducible first | exact HB.out | apply below_alloc | apply pw_below_drewN | apply below_drew1 | refine below_set ?_ GE1365.out | refine below_set ?_ GE1366.out) | exact HB.out)))); have n1_ := Aside0.mk (blk_below (g := gb1365) (o := .cells #[.int .i64 a0_0, .int .i64 a0_1] 73 (0, 0)) (by (with_reducible repeat (first | refine blk_drewN ?_ _ | refine blk_drew ?_ | refine blk_alloc ?_ _)); exact BK1365.out) hb); have n2_ := Aside0.mk (blk_below (g := gb1366) (o := .cells #[.int .i64 a1_0, .int .i64 a1_1, .int .i64 a1_2, .int .i64 a1_3] 26 (0, 0)) (by (with_reducible repeat (first | refine blk_drewN ?_ _ | refine blk_drew ?_ | refine blk_alloc ?_ _)); exact BK1366.out) hb); have n3_ := Aside0.mk (below_step (by repeat (first | (with_reducible first | exact HB.out | apply below_alloc | apply pw_below_drewN | apply below_drew1 | refine below_set ?_ GE1365.out | refine below_set ?_ GE1366.out) | exact HB.out)) hb); clear BK1365; clear BK1366; clear HB; have HO1369 := n0_; have BK1365 := n1_; have BK1366 := n2_; have HB := n3_; clear n0_ n1_ n2_ n3_; clear hb ho7)))
 (try simp only [Act.put, List.setIfInBounds_toArray, List.set_cons_zero, List.set_cons_succ])
 go_cut [25] (fun v25 wc => ∃ (kq : Nat) (x25_2 : Bool), v25 = .bool x25_2 ∧ Aside0 (impl_PiecesOf.j0 kq y1367 x25_2 a0_0 a0_1 a1_0 a1_1 a1_2 a1_3 = some r) ∧ Aside0 (kq ≤ k) ∧ Aside0 (Kd.R k86 86 wc w.heap.size (fun _ => True) v1368 y1367) ∧ Aside0 (wc.heap[gb1365]? = some (.cells #[.int .i64 a0_0, .int .i64 a0_1] 73 (0, 0))) ∧ Aside0 (wc.heap[gb1366]? = some (.cells #[.int .i64 a1_0, .int .i64 a1_1, .int .i64 a1_2, .int .i64 a1_3] 26 (0, 0))) ∧ Aside0 (Below w.heap.size w wc))
 case first =>
  have H := HC3.out
  clear HC3
  replace H := Option.bind_eq_some_iff.mp H
  obtain ⟨t1370, A80, H⟩ := H
  try dsimp only at H
  have A8 := Aside0.mk A80
  clear A80
  by_cases c9 : t1370 = true
  ·
   subst c9
   rw [if_pos rfl] at H
   replace H := Option.bind_eq_some_iff.mp H
   obtain ⟨t1371, A100, H⟩ := H
   try dsimp only at H
   have A10 := Aside0.mk A100
   clear A100
   by_cases c11 : t1371 = true
   ·
    subst c11
    rw [if_pos rfl] at H
    replace H := Option.bind_eq_some_iff.mp H
    obtain ⟨t1372, A120, H⟩ := H
    try dsimp only at H
    have A12 := Aside0.mk A120
    clear A120
    have H' := Aside0.mk H
    clear H
    have hnb13 := NB1365_1366.out
    have hnc13 := NB1366_1365.out
    have hcz14_0 : w6.cell? ⟨gb1365, 0, none⟩ = some (.int .i64 a0_0) := (blk_cell BK1365.out 0).trans rfl
    have hcz14_1 : w6.cell? ⟨gb1365, 1, none⟩ = some (.int .i64 a0_1) := (blk_cell BK1365.out 1).trans rfl
    have hfz14_0 := blk_frozen BK1365.out 0
    have hfz14_1 := blk_frozen BK1365.out 1
    go_wp2_with (first | (go_at_call 55; (with_reducible refine (impl_IsMeter.calls a0_0 a0_1 true _ A8.out).mono ?_); rintro e w15 ⟨rfl, hb⟩; have n0_ := Aside0.mk (Kd.R_below (by (with_reducible repeat (first | apply Kd.R_alloc | apply Kd.R_drewN | apply Kd.R_drew)); exact HO1369.out) hb); have n1_ := Aside0.mk (blk_below (g := gb1365) (o := .cells #[.int .i64 a0_0, .int .i64 a0_1] 73 (0, 0)) (by (with_reducible repeat (first | refine blk_drewN ?_ _ | refine blk_drew ?_ | refine blk_alloc ?_ _)); exact BK1365.out) hb); have n2_ := Aside0.mk (blk_below (g := gb1366) (o := .cells #[.int .i64 a1_0, .int .i64 a1_1, .int .i64 a1_2, .int .i64 a1_3] 26 (0, 0)) (by (with_reducible repeat (first | refine blk_drewN ?_ _ | refine blk_drew ?_ | refine blk_alloc ?_ _)); exact BK1366.out) hb); have n3_ := Aside0.mk (below_step (by repeat (first | (with_reducible first | exact HB.out | apply below_alloc | apply pw_below_drewN | apply below_drew1 | refine below_set ?_ GE1365.out | refine below_set ?_ GE1366.out) | exact HB.out)) hb); clear HO1369; clear BK1365; clear BK1366; clear HB; have HO1369 := n0_; have BK1365 := n1_; have BK1366 := n2_; have HB := n3_; clear n0_ n1_ n2_ n3_; (try clear hb); (try clear hb2); (try clear hk); (try clear hi); have hcz16_0 : w15.cell? ⟨gb1366, 0, none⟩ = some (.int .i64 a1_0) := (blk_cell BK1366.out 0).trans rfl; have hcz16_1 : w15.cell? ⟨gb1366, 1, none⟩ = some (.int .i64 a1_1) := (blk_cell BK1366.out 1).trans rfl; have hcz16_2 : w15.cell? ⟨gb1366, 2, none⟩ = some (.int .i64 a1_2) := (blk_cell BK1366.out 2).trans rfl; have hcz16_3 : w15.cell? ⟨gb1366, 3, none⟩ = some (.int .i64 a1_3) := (blk_cell BK1366.out 3).trans rfl; have hfz16_0 := blk_frozen BK1366.out 0; have hfz16_1 := blk_frozen BK1366.out 1; have hfz16_2 := blk_frozen BK1366.out 2; have hfz16_3 := blk_frozen BK1366.out 3) | (go_at_call 86; (with_reducible refine (impl_InRange.calls a1_0 0 2000 true _ A10.out).mono ?_); rintro e w' ⟨rfl, ⟨nd, rfl⟩⟩; (try first | exact ⟨rfl, _, World.drewN_drewN _ _ _⟩ | exact ⟨rfl, _, Eq.trans (World.drewN_drewN _ _ _) (congrArg (World.drewN _) (Nat.add_assoc _ _ _))⟩)) | (go_at_call 86; (with_reducible refine (impl_InRange.calls a1_1 1 96 t1372 _ A12.out).mono ?_); rintro e w' ⟨rfl, ⟨nd, rfl⟩⟩; (try first | exact ⟨rfl, _, World.drewN_drewN _ _ _⟩ | exact ⟨rfl, _, Eq.trans (World.drewN_drewN _ _ _) (congrArg (World.drewN _) (Nat.add_assoc _ _ _))⟩)))
    repeat (go_quiet (first | (go_at_call 55; (with_reducible refine (impl_IsMeter.calls a0_0 a0_1 true _ A8.out).mono ?_); rintro e w15 ⟨rfl, hb⟩; have n0_ := Aside0.mk (Kd.R_below (by (with_reducible repeat (first | apply Kd.R_alloc | apply Kd.R_drewN | apply Kd.R_drew)); exact HO1369.out) hb); have n1_ := Aside0.mk (blk_below (g := gb1365) (o := .cells #[.int .i64 a0_0, .int .i64 a0_1] 73 (0, 0)) (by (with_reducible repeat (first | refine blk_drewN ?_ _ | refine blk_drew ?_ | refine blk_alloc ?_ _)); exact BK1365.out) hb); have n2_ := Aside0.mk (blk_below (g := gb1366) (o := .cells #[.int .i64 a1_0, .int .i64 a1_1, .int .i64 a1_2, .int .i64 a1_3] 26 (0, 0)) (by (with_reducible repeat (first | refine blk_drewN ?_ _ | refine blk_drew ?_ | refine blk_alloc ?_ _)); exact BK1366.out) hb); have n3_ := Aside0.mk (below_step (by repeat (first | (with_reducible first | exact HB.out | apply below_alloc | apply pw_below_drewN | apply below_drew1 | refine below_set ?_ GE1365.out | refine below_set ?_ GE1366.out) | exact HB.out)) hb); clear HO1369; clear BK1365; clear BK1366; clear HB; have HO1369 := n0_; have BK1365 := n1_; have BK1366 := n2_; have HB := n3_; clear n0_ n1_ n2_ n3_; (try clear hb); (try clear hb2); (try clear hk); (try clear hi); have hcz16_0 : w15.cell? ⟨gb1366, 0, none⟩ = some (.int .i64 a1_0) := (blk_cell BK1366.out 0).trans rfl; have hcz16_1 : w15.cell? ⟨gb1366, 1, none⟩ = some (.int .i64 a1_1) := (blk_cell BK1366.out 1).trans rfl; have hcz16_2 : w15.cell? ⟨gb1366, 2, none⟩ = some (.int .i64 a1_2) := (blk_cell BK1366.out 2).trans rfl; have hcz16_3 : w15.cell? ⟨gb1366, 3, none⟩ = some (.int .i64 a1_3) := (blk_cell BK1366.out 3).trans rfl; have hfz16_0 := blk_frozen BK1366.out 0; have hfz16_1 := blk_frozen BK1366.out 1; have hfz16_2 := blk_frozen BK1366.out 2; have hfz16_3 := blk_frozen BK1366.out 3) | (go_at_call 86; (with_reducible refine (impl_InRange.calls a1_0 0 2000 true _ A10.out).mono ?_); rintro e w' ⟨rfl, ⟨nd, rfl⟩⟩; (try first | exact ⟨rfl, _, World.drewN_drewN _ _ _⟩ | exact ⟨rfl, _, Eq.trans (World.drewN_drewN _ _ _) (congrArg (World.drewN _) (Nat.add_assoc _ _ _))⟩)) | (go_at_call 86; (with_reducible refine (impl_InRange.calls a1_1 1 96 t1372 _ A12.out).mono ?_); rintro e w' ⟨rfl, ⟨nd, rfl⟩⟩; (try first | exact ⟨rfl, _, World.drewN_drewN _ _ _⟩ | exact ⟨rfl, _, Eq.trans (World.drewN_drewN _ _ _) (congrArg (World.drewN _) (Nat.add_assoc _ _ _))⟩))); try go_wp2_with (first | (go_at_call 55; (with_reducible refine (impl_IsMeter.calls a0_0 a0_1 true _ A8.out).mono ?_); rintro e w15 ⟨rfl, hb⟩; have n0_ := Aside0.mk (Kd.R_below (by (with_reducible repeat (first | apply Kd.R_alloc | apply Kd.R_drewN | apply Kd.R_drew)); exact HO1369.out) hb); have n1_ := Aside0.mk (blk_below (g := gb1365) (o := .cells #[.int .i64 a0_0, .int .i64 a0_1] 73 (0, 0)) (by (with_reducible repeat (first | refine blk_drewN ?_ _ | refine blk_drew ?_ | refine blk_alloc ?_ _)); exact BK1365.out) hb); have n2_ := Aside0.mk (blk_below (g := gb1366) (o := .cells #[.int .i64 a1_0, .int .i64 a1_1, .int .i64 a1_2, .int .i64 a1_3] 26 (0, 0)) (by (with_reducible repeat (first | refine blk_drewN ?_ _ | refine blk_drew ?_ | refine blk_alloc ?_ _)); exact BK1366.out) hb); have n3_ := Aside0.mk (below_step (by repeat (first | (with_reducible first | exact HB.out | apply below_alloc | apply pw_below_drewN | apply below_drew1 | refine below_set ?_ GE1365.out | refine below_set ?_ GE1366.out) | exact HB.out)) hb); clear HO1369; clear BK1365; clear BK1366; clear HB; have HO1369 := n0_; have BK1365 := n1_; have BK1366 := n2_; have HB := n3_; clear n0_ n1_ n2_ n3_; (try clear hb); (try clear hb2); (try clear hk); (try clear hi); have hcz16_0 : w15.cell? ⟨gb1366, 0, none⟩ = some (.int .i64 a1_0) := (blk_cell BK1366.out 0).trans rfl; have hcz16_1 : w15.cell? ⟨gb1366, 1, none⟩ = some (.int .i64 a1_1) := (blk_cell BK1366.out 1).trans rfl; have hcz16_2 : w15.cell? ⟨gb1366, 2, none⟩ = some (.int .i64 a1_2) := (blk_cell BK1366.out 2).trans rfl; have hcz16_3 : w15.cell? ⟨gb1366, 3, none⟩ = some (.int .i64 a1_3) := (blk_cell BK1366.out 3).trans rfl; have hfz16_0 := blk_frozen BK1366.out 0; have hfz16_1 := blk_frozen BK1366.out 1; have hfz16_2 := blk_frozen BK1366.out 2; have hfz16_3 := blk_frozen BK1366.out 3) | (go_at_call 86; (with_reducible refine (impl_InRange.calls a1_0 0 2000 true _ A10.out).mono ?_); rintro e w' ⟨rfl, ⟨nd, rfl⟩⟩; (try first | exact ⟨rfl, _, World.drewN_drewN _ _ _⟩ | exact ⟨rfl, _, Eq.trans (World.drewN_drewN _ _ _) (congrArg (World.drewN _) (Nat.add_assoc _ _ _))⟩)) | (go_at_call 86; (with_reducible refine (impl_InRange.calls a1_1 1 96 t1372 _ A12.out).mono ?_); rintro e w' ⟨rfl, ⟨nd, rfl⟩⟩; (try first | exact ⟨rfl, _, World.drewN_drewN _ _ _⟩ | exact ⟨rfl, _, Eq.trans (World.drewN_drewN _ _ _) (congrArg (World.drewN _) (Nat.add_assoc _ _ _))⟩))))
    go_meet
    case rel => exact ⟨_, (!t1372), (by first | rfl | (simp; done) | (simp [*]; done)), H', ⟨by first | omega | exact Nat.le_refl _⟩, ⟨by (with_reducible repeat (first | apply Kd.R_alloc | apply Kd.R_drewN | apply Kd.R_drew)); exact HO1369.out⟩, ⟨by (with_reducible repeat (first | refine blk_drewN ?_ _ | refine blk_drew ?_ | refine blk_alloc ?_ _)); exact BK1365.out⟩, ⟨by (with_reducible repeat (first | refine blk_drewN ?_ _ | refine blk_drew ?_ | refine blk_alloc ?_ _)); exact BK1366.out⟩, ⟨by repeat (first | (with_reducible first | exact HB.out | apply below_alloc | apply pw_below_drewN | apply below_drew1 | refine below_set ?_ GE1365.out | refine below_set ?_ GE1366.out) | exact HB.out)⟩⟩
   ·
    replace c11 := Bool.eq_false_iff.mpr c11
    subst c11
    rw [if_neg (show ¬ (false = true) by decide)] at H
    have H' := Aside0.mk H
    clear H
    have hnb17 := NB1365_1366.out
    have hnc17 := NB1366_1365.out
    have hcz18_0 : w6.cell? ⟨gb1365, 0, none⟩ = some (.int .i64 a0_0) := (blk_cell BK1365.out 0).trans rfl
    have hcz18_1 : w6.cell? ⟨gb1365, 1, none⟩ = some (.int .i64 a0_1) := (blk_cell BK1365.out 1).trans rfl
    have hfz18_0 := blk_frozen BK1365.out 0
    have hfz18_1 := blk_frozen BK1365.out 1
    go_wp2_with (first | (go_at_call 55; (with_reducible refine (impl_IsMeter.calls a0_0 a0_1 true _ A8.out).mono ?_); rintro e w19 ⟨rfl, hb⟩; have n0_ := Aside0.mk (Kd.R_below (by (with_reducible repeat (first | apply Kd.R_alloc | apply Kd.R_drewN | apply Kd.R_drew)); exact HO1369.out) hb); have n1_ := Aside0.mk (blk_below (g := gb1365) (o := .cells #[.int .i64 a0_0, .int .i64 a0_1] 73 (0, 0)) (by (with_reducible repeat (first | refine blk_drewN ?_ _ | refine blk_drew ?_ | refine blk_alloc ?_ _)); exact BK1365.out) hb); have n2_ := Aside0.mk (blk_below (g := gb1366) (o := .cells #[.int .i64 a1_0, .int .i64 a1_1, .int .i64 a1_2, .int .i64 a1_3] 26 (0, 0)) (by (with_reducible repeat (first | refine blk_drewN ?_ _ | refine blk_drew ?_ | refine blk_alloc ?_ _)); exact BK1366.out) hb); have n3_ := Aside0.mk (below_step (by repeat (first | (with_reducible first | exact HB.out | apply below_alloc | apply pw_below_drewN | apply below_drew1 | refine below_set ?_ GE1365.out | refine below_set ?_ GE1366.out) | exact HB.out)) hb); clear HO1369; clear BK1365; clear BK1366; clear HB; have HO1369 := n0_; have BK1365 := n1_; have BK1366 := n2_; have HB := n3_; clear n0_ n1_ n2_ n3_; (try clear hb); (try clear hb2); (try clear hk); (try clear hi); have hcz20_0 : w19.cell? ⟨gb1366, 0, none⟩ = some (.int .i64 a1_0) := (blk_cell BK1366.out 0).trans rfl; have hcz20_1 : w19.cell? ⟨gb1366, 1, none⟩ = some (.int .i64 a1_1) := (blk_cell BK1366.out 1).trans rfl; have hcz20_2 : w19.cell? ⟨gb1366, 2, none⟩ = some (.int .i64 a1_2) := (blk_cell BK1366.out 2).trans rfl; have hcz20_3 : w19.cell? ⟨gb1366, 3, none⟩ = some (.int .i64 a1_3) := (blk_cell BK1366.out 3).trans rfl; have hfz20_0 := blk_frozen BK1366.out 0; have hfz20_1 := blk_frozen BK1366.out 1; have hfz20_2 := blk_frozen BK1366.out 2; have hfz20_3 := blk_frozen BK1366.out 3) | (go_at_call 86; (with_reducible refine (impl_InRange.calls a1_0 0 2000 false _ A10.out).mono ?_); rintro e w' ⟨rfl, ⟨nd, rfl⟩⟩; (try first | exact ⟨rfl, _, World.drewN_drewN _ _ _⟩ | exact ⟨rfl, _, Eq.trans (World.drewN_drewN _ _ _) (congrArg (World.drewN _) (Nat.add_assoc _ _ _))⟩)))
    repeat (go_quiet (first | (go_at_call 55; (with_reducible refine (impl_IsMeter.calls a0_0 a0_1 true _ A8.out).mono ?_); rintro e w19 ⟨rfl, hb⟩; have n0_ := Aside0.mk (Kd.R_below (by (with_reducible repeat (first | apply Kd.R_alloc | apply Kd.R_drewN | apply Kd.R_drew)); exact HO1369.out) hb); have n1_ := Aside0.mk (blk_below (g := gb1365) (o := .cells #[.int .i64 a0_0, .int .i64 a0_1] 73 (0, 0)) (by (with_reducible repeat (first | refine blk_drewN ?_ _ | refine blk_drew ?_ | refine blk_alloc ?_ _)); exact BK1365.out) hb); have n2_ := Aside0.mk (blk_below (g := gb1366) (o := .cells #[.int .i64 a1_0, .int .i64 a1_1, .int .i64 a1_2, .int .i64 a1_3] 26 (0, 0)) (by (with_reducible repeat (first | refine blk_drewN ?_ _ | refine blk_drew ?_ | refine blk_alloc ?_ _)); exact BK1366.out) hb); have n3_ := Aside0.mk (below_step (by repeat (first | (with_reducible first | exact HB.out | apply below_alloc | apply pw_below_drewN | apply below_drew1 | refine below_set ?_ GE1365.out | refine below_set ?_ GE1366.out) | exact HB.out)) hb); clear HO1369; clear BK1365; clear BK1366; clear HB; have HO1369 := n0_; have BK1365 := n1_; have BK1366 := n2_; have HB := n3_; clear n0_ n1_ n2_ n3_; (try clear hb); (try clear hb2); (try clear hk); (try clear hi); have hcz20_0 : w19.cell? ⟨gb1366, 0, none⟩ = some (.int .i64 a1_0) := (blk_cell BK1366.out 0).trans rfl; have hcz20_1 : w19.cell? ⟨gb1366, 1, none⟩ = some (.int .i64 a1_1) := (blk_cell BK1366.out 1).trans rfl; have hcz20_2 : w19.cell? ⟨gb1366, 2, none⟩ = some (.int .i64 a1_2) := (blk_cell BK1366.out 2).trans rfl; have hcz20_3 : w19.cell? ⟨gb1366, 3, none⟩ = some (.int .i64 a1_3) := (blk_cell BK1366.out 3).trans rfl; have hfz20_0 := blk_frozen BK1366.out 0; have hfz20_1 := blk_frozen BK1366.out 1; have hfz20_2 := blk_frozen BK1366.out 2; have hfz20_3 := blk_frozen BK1366.out 3) | (go_at_call 86; (with_reducible refine (impl_InRange.calls a1_0 0 2000 false _ A10.out).mono ?_); rintro e w' ⟨rfl, ⟨nd, rfl⟩⟩; (try first | exact ⟨rfl, _, World.drewN_drewN _ _ _⟩ | exact ⟨rfl, _, Eq.trans (World.drewN_drewN _ _ _) (congrArg (World.drewN _) (Nat.add_assoc _ _ _))⟩))); try go_wp2_with (first | (go_at_call 55; (with_reducible refine (impl_IsMeter.calls a0_0 a0_1 true _ A8.out).mono ?_); rintro e w19 ⟨rfl, hb⟩; have n0_ := Aside0.mk (Kd.R_below (by (with_reducible repeat (first | apply Kd.R_alloc | apply Kd.R_drewN | apply Kd.R_drew)); exact HO1369.out) hb); have n1_ := Aside0.mk (blk_below (g := gb1365) (o := .cells #[.int .i64 a0_0, .int .i64 a0_1] 73 (0, 0)) (by (with_reducible repeat (first | refine blk_drewN ?_ _ | refine blk_drew ?_ | refine blk_alloc ?_ _)); exact BK1365.out) hb); have n2_ := Aside0.mk (blk_below (g := gb1366) (o := .cells #[.int .i64 a1_0, .int .i64 a1_1, .int .i64 a1_2, .int .i64 a1_3] 26 (0, 0)) (by (with_reducible repeat (first | refine blk_drewN ?_ _ | refine blk_drew ?_ | refine blk_alloc ?_ _)); exact BK1366.out) hb); have n3_ := Aside0.mk (below_step (by repeat (first | (with_reducible first | exact HB.out | apply below_alloc | apply pw_below_drewN | apply below_drew1 | refine below_set ?_ GE1365.out | refine below_set ?_ GE1366.out) | exact HB.out)) hb); clear HO1369; clear BK1365; clear BK1366; clear HB; have HO1369 := n0_; have BK1365 := n1_; have BK1366 := n2_; have HB := n3_; clear n0_ n1_ n2_ n3_; (try clear hb); (try clear hb2); (try clear hk); (try clear hi); have hcz20_0 : w19.cell? ⟨gb1366, 0, none⟩ = some (.int .i64 a1_0) := (blk_cell BK1366.out 0).trans rfl; have hcz20_1 : w19.cell? ⟨gb1366, 1, none⟩ = some (.int .i64 a1_1) := (blk_cell BK1366.out 1).trans rfl; have hcz20_2 : w19.cell? ⟨gb1366, 2, none⟩ = some (.int .i64 a1_2) := (blk_cell BK1366.out 2).trans rfl; have hcz20_3 : w19.cell? ⟨gb1366, 3, none⟩ = some (.int .i64 a1_3) := (blk_cell BK1366.out 3).trans rfl; have hfz20_0 := blk_frozen BK1366.out 0; have hfz20_1 := blk_frozen BK1366.out 1; have hfz20_2 := blk_frozen BK1366.out 2; have hfz20_3 := blk_frozen BK1366.out 3) | (go_at_call 86; (with_reducible refine (impl_InRange.calls a1_0 0 2000 false _ A10.out).mono ?_); rintro e w' ⟨rfl, ⟨nd, rfl⟩⟩; (try first | exact ⟨rfl, _, World.drewN_drewN _ _ _⟩ | exact ⟨rfl, _, Eq.trans (World.drewN_drewN _ _ _) (congrArg (World.drewN _) (Nat.add_assoc _ _ _))⟩))))
    go_meet
    case rel => exact ⟨_, (true), (by first | rfl | (simp; done) | (simp [*]; done)), H', ⟨by first | omega | exact Nat.le_refl _⟩, ⟨by (with_reducible repeat (first | apply Kd.R_alloc | apply Kd.R_drewN | apply Kd.R_drew)); exact HO1369.out⟩, ⟨by (with_reducible repeat (first | refine blk_drewN ?_ _ | refine blk_drew ?_ | refine blk_alloc ?_ _)); exact BK1365.out⟩, ⟨by (with_reducible repeat (first | refine blk_drewN ?_ _ | refine blk_drew ?_ | refine blk_alloc ?_ _)); exact BK1366.out⟩, ⟨by repeat (first | (with_reducible first | exact HB.out | apply below_alloc | apply pw_below_drewN | apply below_drew1 | refine below_set ?_ GE1365.out | refine below_set ?_ GE1366.out) | exact HB.out)⟩⟩
  ·
   replace c9 := Bool.eq_false_iff.mpr c9
   subst c9
   rw [if_neg (show ¬ (false = true) by decide)] at H
   have H' := Aside0.mk H
   clear H
   have hnb21 := NB1365_1366.out
   have hnc21 := NB1366_1365.out
   have hcz22_0 : w6.cell? ⟨gb1365, 0, none⟩ = some (.int .i64 a0_0) := (blk_cell BK1365.out 0).trans rfl
   have hcz22_1 : w6.cell? ⟨gb1365, 1, none⟩ = some (.int .i64 a0_1) := (blk_cell BK1365.out 1).trans rfl
   have hfz22_0 := blk_frozen BK1365.out 0
   have hfz22_1 := blk_frozen BK1365.out 1
   go_wp2_with (first | (go_at_call 55; (with_reducible refine (impl_IsMeter.calls a0_0 a0_1 false _ A8.out).mono ?_); rintro e w23 ⟨rfl, hb⟩; have n0_ := Aside0.mk (Kd.R_below (by (with_reducible repeat (first | apply Kd.R_alloc | apply Kd.R_drewN | apply Kd.R_drew)); exact HO1369.out) hb); have n1_ := Aside0.mk (blk_below (g := gb1365) (o := .cells #[.int .i64 a0_0, .int .i64 a0_1] 73 (0, 0)) (by (with_reducible repeat (first | refine blk_drewN ?_ _ | refine blk_drew ?_ | refine blk_alloc ?_ _)); exact BK1365.out) hb); have n2_ := Aside0.mk (blk_below (g := gb1366) (o := .cells #[.int .i64 a1_0, .int .i64 a1_1, .int .i64 a1_2, .int .i64 a1_3] 26 (0, 0)) (by (with_reducible repeat (first | refine blk_drewN ?_ _ | refine blk_drew ?_ | refine blk_alloc ?_ _)); exact BK1366.out) hb); have n3_ := Aside0.mk (below_step (by repeat (first | (with_reducible first | exact HB.out | apply below_alloc | apply pw_below_drewN | apply below_drew1 | refine below_set ?_ GE1365.out | refine below_set ?_ GE1366.out) | exact HB.out)) hb); clear HO1369; clear BK1365; clear BK1366; clear HB; have HO1369 := n0_; have BK1365 := n1_; have BK1366 := n2_; have HB := n3_; clear n0_ n1_ n2_ n3_; (try clear hb); (try clear hb2); (try clear hk); (try clear hi)))
   repeat (go_quiet (first | (go_at_call 55; (with_reducible refine (impl_IsMeter.calls a0_0 a0_1 false _ A8.out).mono ?_); rintro e w23 ⟨rfl, hb⟩; have n0_ := Aside0.mk (Kd.R_below (by (with_reducible repeat (first | apply Kd.R_alloc | apply Kd.R_drewN | apply Kd.R_drew)); exact HO1369.out) hb); have n1_ := Aside0.mk (blk_below (g := gb1365) (o := .cells #[.int .i64 a0_0, .int .i64 a0_1] 73 (0, 0)) (by (with_reducible repeat (first | refine blk_drewN ?_ _ | refine blk_drew ?_ | refine blk_alloc ?_ _)); exact BK1365.out) hb); have n2_ := Aside0.mk (blk_below (g := gb1366) (o := .cells #[.int .i64 a1_0, .int .i64 a1_1, .int .i64 a1_2, .int .i64 a1_3] 26 (0, 0)) (by (with_reducible repeat (first | refine blk_drewN ?_ _ | refine blk_drew ?_ | refine blk_alloc ?_ _)); exact BK1366.out) hb); have n3_ := Aside0.mk (below_step (by repeat (first | (with_reducible first | exact HB.out | apply below_alloc | apply pw_below_drewN | apply below_drew1 | refine below_set ?_ GE1365.out | refine below_set ?_ GE1366.out) | exact HB.out)) hb); clear HO1369; clear BK1365; clear BK1366; clear HB; have HO1369 := n0_; have BK1365 := n1_; have BK1366 := n2_; have HB := n3_; clear n0_ n1_ n2_ n3_; (try clear hb); (try clear hb2); (try clear hk); (try clear hi))); try go_wp2_with (first | (go_at_call 55; (with_reducible refine (impl_IsMeter.calls a0_0 a0_1 false _ A8.out).mono ?_); rintro e w23 ⟨rfl, hb⟩; have n0_ := Aside0.mk (Kd.R_below (by (with_reducible repeat (first | apply Kd.R_alloc | apply Kd.R_drewN | apply Kd.R_drew)); exact HO1369.out) hb); have n1_ := Aside0.mk (blk_below (g := gb1365) (o := .cells #[.int .i64 a0_0, .int .i64 a0_1] 73 (0, 0)) (by (with_reducible repeat (first | refine blk_drewN ?_ _ | refine blk_drew ?_ | refine blk_alloc ?_ _)); exact BK1365.out) hb); have n2_ := Aside0.mk (blk_below (g := gb1366) (o := .cells #[.int .i64 a1_0, .int .i64 a1_1, .int .i64 a1_2, .int .i64 a1_3] 26 (0, 0)) (by (with_reducible repeat (first | refine blk_drewN ?_ _ | refine blk_drew ?_ | refine blk_alloc ?_ _)); exact BK1366.out) hb); have n3_ := Aside0.mk (below_step (by repeat (first | (with_reducible first | exact HB.out | apply below_alloc | apply pw_below_drewN | apply below_drew1 | refine below_set ?_ GE1365.out | refine below_set ?_ GE1366.out) | exact HB.out)) hb); clear HO1369; clear BK1365; clear BK1366; clear HB; have HO1369 := n0_; have BK1365 := n1_; have BK1366 := n2_; have HB := n3_; clear n0_ n1_ n2_ n3_; (try clear hb); (try clear hb2); (try clear hk); (try clear hi))))
   go_meet
   case rel => exact ⟨_, (true), (by first | rfl | (simp; done) | (simp [*]; done)), H', ⟨by first | omega | exact Nat.le_refl _⟩, ⟨by (with_reducible repeat (first | apply Kd.R_alloc | apply Kd.R_drewN | apply Kd.R_drew)); exact HO1369.out⟩, ⟨by (with_reducible repeat (first | refine blk_drewN ?_ _ | refine blk_drew ?_ | refine blk_alloc ?_ _)); exact BK1365.out⟩, ⟨by (with_reducible repeat (first | refine blk_drewN ?_ _ | refine blk_drew ?_ | refine blk_alloc ?_ _)); exact BK1366.out⟩, ⟨by repeat (first | (with_reducible first | exact HB.out | apply below_alloc | apply pw_below_drewN | apply below_drew1 | refine below_set ?_ GE1365.out | refine below_set ?_ GE1366.out) | exact HB.out)⟩⟩
 case rest =>
  clear HC3
  try clear c1
  try clear c2
  try clear p2
  try clear c5
  try clear c9
  try clear c11
  try clear c13
  try clear c17
  try clear c21
  try clear hcz14_0
  try clear hcz14_1
  try clear hcz16_0
  try clear hcz16_1
  try clear hcz16_2
  try clear hcz16_3
  try clear hcz18_0
  try clear hcz18_1
  try clear hcz20_0
  try clear hcz20_1
  try clear hcz20_2
  try clear hcz20_3
  try clear hcz22_0
  try clear hcz22_1
  try clear hfz14_0
  try clear hfz14_1
  try clear hfz16_0
  try clear hfz16_1
  try clear hfz16_2
  try clear hfz16_3
  try clear hfz18_0
  try clear hfz18_1
  try clear hfz20_0
  try clear hfz20_1
  try clear hfz20_2
  try clear hfz20_3
  try clear hfz22_0
  try clear hfz22_1
  obtain ⟨kq, x25_2, rfl, HA, HJ2, HO_5, BK1365, BK1366, HB⟩ := hcut
  cases kq with
  | zero => exact absurd HA.out (by simp [impl_PiecesOf.j0])
  | succ kj2 =>
   have H := HA.out
   clear HA
   simp only [impl_PiecesOf.j0] at H
   by_cases c24 : x25_2 = true
   ·
    subst c24
    rw [if_pos rfl] at H
    obtain rfl := Option.some.inj H
    go_wp2
    repeat (go_quiet (fail); try go_wp2)
    go_ret
    exact ⟨_, by first | rfl | (simp [errW_none, errW_some] <;> rfl) | (simp [*, errW_none, errW_some] <;> rfl), by (with_reducible repeat (first | apply Kd.R_alloc | apply Kd.R_drewN | apply Kd.R_drew)); exact HO_5.out, by repeat (first | (with_reducible first | exact HB.out | apply below_alloc | apply pw_below_drewN | apply below_drew1 | refine below_set ?_ GE1365.out | refine below_set ?_ GE1366.out) | exact HB.out)⟩
   ·
    replace c24 := Bool.eq_false_iff.mpr c24
    subst c24
    rw [if_neg (show ¬ (false = true) by decide)] at H
    replace H := Option.bind_eq_some_iff.mp H
    obtain ⟨t1373, A250, H⟩ := H
    try dsimp only at H
    have A25 := Aside0.mk A250
    clear A250
    have H' := Aside0.mk H
    clear H
    have hnb26 := NB1365_1366.out
    have hnc26 := NB1366_1365.out
    have hcz27_0 : wc.cell? ⟨gb1365, 0, none⟩ = some (.int .i64 a0_0) := (blk_cell BK1365.out 0).trans rfl
    have hcz27_1 : wc.cell? ⟨gb1365, 1, none⟩ = some (.int .i64 a0_1) := (blk_cell BK1365.out 1).trans rfl
    have hfz27_0 := blk_frozen BK1365.out 0
    have hfz27_1 := blk_frozen BK1365.out 1
    go_wp2_with (first | (go_at_call 52; (with_reducible refine (impl_BarLong.calls a0_0 a0_1 t1373 _ A25.out).mono ?_); rintro e w28 ⟨rfl, hb⟩; have n0_ := Aside0.mk (Kd.R_below (by (with_reducible repeat (first | apply Kd.R_alloc | apply Kd.R_drewN | apply Kd.R_drew)); exact HO_5.out) hb); have n1_ := Aside0.mk (blk_below (g := gb1365) (o := .cells #[.int .i64 a0_0, .int .i64 a0_1] 73 (0, 0)) (by (with_reducible repeat (first | refine blk_drewN ?_ _ | refine blk_drew ?_ | refine blk_alloc ?_ _)); exact BK1365.out) hb); have n2_ := Aside0.mk (blk_below (g := gb1366) (o := .cells #[.int .i64 a1_0, .int .i64 a1_1, .int .i64 a1_2, .int .i64 a1_3] 26 (0, 0)) (by (with_reducible repeat (first | refine blk_drewN ?_ _ | refine blk_drew ?_ | refine blk_alloc ?_ _)); exact BK1366.out) hb); have n3_ := Aside0.mk (below_step (by repeat (first | (with_reducible first | exact HB.out | apply below_alloc | apply pw_below_drewN | apply below_drew1 | refine below_set ?_ GE1365.out | refine below_set ?_ GE1366.out) | exact HB.out)) hb); clear HO_5; clear BK1365; clear BK1366; clear HB; have HO_5 := n0_; have BK1365 := n1_; have BK1366 := n2_; have HB := n3_; clear n0_ n1_ n2_ n3_; (try clear hb); (try clear hb2); (try clear hk); (try clear hi); have hcz29_0 : w28.cell? ⟨gb1366, 0, none⟩ = some (.int .i64 a1_0) := (blk_cell BK1366.out 0).trans rfl; have hcz29_1 : w28.cell? ⟨gb1366, 1, none⟩ = some (.int .i64 a1_1) := (blk_cell BK1366.out 1).trans rfl; have hcz29_2 : w28.cell? ⟨gb1366, 2, none⟩ = some (.int .i64 a1_2) := (blk_cell BK1366.out 2).trans rfl; have hcz29_3 : w28.cell? ⟨gb1366, 3, none⟩ = some (.int .i64 a1_3) := (blk_cell BK1366.out 3).trans rfl; have hfz29_0 := blk_frozen BK1366.out 0; have hfz29_1 := blk_frozen BK1366.out 1; have hfz29_2 := blk_frozen BK1366.out 2; have hfz29_3 := blk_frozen BK1366.out 3))
    repeat (go_quiet (first | (go_at_call 52; (with_reducible refine (impl_BarLong.calls a0_0 a0_1 t1373 _ A25.out).mono ?_); rintro e w28 ⟨rfl, hb⟩; have n0_ := Aside0.mk (Kd.R_below (by (with_reducible repeat (first | apply Kd.R_alloc | apply Kd.R_drewN | apply Kd.R_drew)); exact HO_5.out) hb); have n1_ := Aside0.mk (blk_below (g := gb1365) (o := .cells #[.int .i64 a0_0, .int .i64 a0_1] 73 (0, 0)) (by (with_reducible repeat (first | refine blk_drewN ?_ _ | refine blk_drew ?_ | refine blk_alloc ?_ _)); exact BK1365.out) hb); have n2_ := Aside0.mk (blk_below (g := gb1366) (o := .cells #[.int .i64 a1_0, .int .i64 a1_1, .int .i64 a1_2, .int .i64 a1_3] 26 (0, 0)) (by (with_reducible repeat (first | refine blk_drewN ?_ _ | refine blk_drew ?_ | refine blk_alloc ?_ _)); exact BK1366.out) hb); have n3_ := Aside0.mk (below_step (by repeat (first | (with_reducible first | exact HB.out | apply below_alloc | apply pw_below_drewN | apply below_drew1 | refine below_set ?_ GE1365.out | refine below_set ?_ GE1366.out) | exact HB.out)) hb); clear HO_5; clear BK1365; clear BK1366; clear HB; have HO_5 := n0_; have BK1365 := n1_; have BK1366 := n2_; have HB := n3_; clear n0_ n1_ n2_ n3_; (try clear hb); (try clear hb2); (try clear hk); (try clear hi); have hcz29_0 : w28.cell? ⟨gb1366, 0, none⟩ = some (.int .i64 a1_0) := (blk_cell BK1366.out 0).trans rfl; have hcz29_1 : w28.cell? ⟨gb1366, 1, none⟩ = some (.int .i64 a1_1) := (blk_cell BK1366.out 1).trans rfl; have hcz29_2 : w28.cell? ⟨gb1366, 2, none⟩ = some (.int .i64 a1_2) := (blk_cell BK1366.out 2).trans rfl; have hcz29_3 : w28.cell? ⟨gb1366, 3, none⟩ = some (.int .i64 a1_3) := (blk_cell BK1366.out 3).trans rfl; have hfz29_0 := blk_frozen BK1366.out 0; have hfz29_1 := blk_frozen BK1366.out 1; have hfz29_2 := blk_frozen BK1366.out 2; have hfz29_3 := blk_frozen BK1366.out 3)); try go_wp2_with (first | (go_at_call 52; (with_reducible refine (impl_BarLong.calls a0_0 a0_1 t1373 _ A25.out).mono ?_); rintro e w28 ⟨rfl, hb⟩; have n0_ := Aside0.mk (Kd.R_below (by (with_reducible repeat (first | apply Kd.R_alloc | apply Kd.R_drewN | apply Kd.R_drew)); exact HO_5.out) hb); have n1_ := Aside0.mk (blk_below (g := gb1365) (o := .cells #[.int .i64 a0_0, .int .i64 a0_1] 73 (0, 0)) (by (with_reducible repeat (first | refine blk_drewN ?_ _ | refine blk_drew ?_ | refine blk_alloc ?_ _)); exact BK1365.out) hb); have n2_ := Aside0.mk (blk_below (g := gb1366) (o := .cells #[.int .i64 a1_0, .int .i64 a1_1, .int .i64 a1_2, .int .i64 a1_3] 26 (0, 0)) (by (with_reducible repeat (first | refine blk_drewN ?_ _ | refine blk_drew ?_ | refine blk_alloc ?_ _)); exact BK1366.out) hb); have n3_ := Aside0.mk (below_step (by repeat (first | (with_reducible first | exact HB.out | apply below_alloc | apply pw_below_drewN | apply below_drew1 | refine below_set ?_ GE1365.out | refine below_set ?_ GE1366.out) | exact HB.out)) hb); clear HO_5; clear BK1365; clear BK1366; clear HB; have HO_5 := n0_; have BK1365 := n1_; have BK1366 := n2_; have HB := n3_; clear n0_ n1_ n2_ n3_; (try clear hb); (try clear hb2); (try clear hk); (try clear hi); have hcz29_0 : w28.cell? ⟨gb1366, 0, none⟩ = some (.int .i64 a1_0) := (blk_cell BK1366.out 0).trans rfl; have hcz29_1 : w28.cell? ⟨gb1366, 1, none⟩ = some (.int .i64 a1_1) := (blk_cell BK1366.out 1).trans rfl; have hcz29_2 : w28.cell? ⟨gb1366, 2, none⟩ = some (.int .i64 a1_2) := (blk_cell BK1366.out 2).trans rfl; have hcz29_3 : w28.cell? ⟨gb1366, 3, none⟩ = some (.int .i64 a1_3) := (blk_cell BK1366.out 3).trans rfl; have hfz29_0 := blk_frozen BK1366.out 0; have hfz29_1 := blk_frozen BK1366.out 1; have hfz29_2 := blk_frozen BK1366.out 2; have hfz29_3 := blk_frozen BK1366.out 3)))
    go_loopg [5, 7] kj2 (fun kq v5 v7 w' => ∃ (x5_2 : List (S86)) (x7_2 : Int), v7 = .int .i64 x7_2 ∧ Aside0 (impl_PiecesOf.l0 kq x5_2 t1373 x7_2 (wrap64 (a1_0 + a1_1)) = some r) ∧ Aside0 (kq ≤ kj2) ∧ Aside0 (Kd.R k86 86 w' w.heap.size (fun _ => True) v5 x5_2) ∧ Aside0 (w'.heap[gb1365]? = some (.cells #[.int .i64 a0_0, .int .i64 a0_1] 73 (0, 0))) ∧ Aside0 (w'.heap[gb1366]? = some (.cells #[.int .i64 a1_0, .int .i64 a1_1, .int .i64 a1_2, .int .i64 a1_3] 26 (0, 0))) ∧ Aside0 (Below w.heap.size w w'))
    case atStart => exact ⟨(y1367), (a1_0), (by first | rfl | (simp; done) | (simp [*]; done)), H', ⟨Nat.le_refl _⟩, ⟨by (with_reducible repeat (first | apply Kd.R_alloc | apply Kd.R_drewN | apply Kd.R_drew)); exact HO_5.out⟩, ⟨by (with_reducible repeat (first | refine blk_drewN ?_ _ | refine blk_drew ?_ | refine blk_alloc ?_ _)); exact BK1365.out⟩, ⟨by (with_reducible repeat (first | refine blk_drewN ?_ _ | refine blk_drew ?_ | refine blk_alloc ?_ _)); exact BK1366.out⟩, ⟨by repeat (first | (with_reducible first | exact HB.out | apply below_alloc | apply pw_below_drewN | apply below_drew1 | refine below_set ?_ GE1365.out | refine below_set ?_ GE1366.out) | exact HB.out)⟩⟩
    case round =>
     clear H'
     try clear c1
     try clear c2
     try clear p2
     try clear c5
     try clear p6
     try clear c9
     try clear c11
     try clear c13
     try clear c17
     try clear c21
     try clear c24
     try clear c26
     try clear hcz14_0
     try clear hcz14_1
     try clear hcz16_0
     try clear hcz16_1
     try clear hcz16_2
     try clear hcz16_3
     try clear hcz18_0
     try clear hcz18_1
     try clear hcz20_0
     try clear hcz20_1
     try clear hcz20_2
     try clear hcz20_3
     try clear hcz22_0
     try clear hcz22_1
     try clear hcz27_0
     try clear hcz27_1
     try clear hcz29_0
     try clear hcz29_1
     try clear hcz29_2
     try clear hcz29_3
     try clear hfz14_0
     try clear hfz14_1
     try clear hfz16_0
     try clear hfz16_1
     try clear hfz16_2
     try clear hfz16_3
     try clear hfz18_0
     try clear hfz18_1
     try clear hfz20_0
     try clear hfz20_1
     try clear hfz20_2
     try clear hfz20_3
     try clear hfz22_0
     try clear hfz22_1
     try clear hfz27_0
     try clear hfz27_1
     try clear hfz29_0
     try clear hfz29_1
     try clear hfz29_2
     try clear hfz29_3
     try clear p2
     obtain ⟨x5_2, x7_2, rfl, HA, HK2, HO_5, BK1365, BK1366, HB⟩ := hrel
     cases gk with
     | zero => exact absurd HA.out (by simp [impl_PiecesOf.l0])
     | succ k2 =>
      have H := HA.out
      clear HA
      simp only [impl_PiecesOf.l0] at H
      by_cases c30 : x7_2 < (wrap64 (a1_0 + a1_1))
      ·
       rw [if_pos c30] at H
       have c30b0 : decide (x7_2 < (wrap64 (a1_0 + a1_1))) = true := decide_eq_true c30
       clear c30
       by_cases c31 : t1373 = 0
       ·
        rw [if_pos c31] at H
        exact absurd H (by simp)
       ·
        rw [if_neg c31] at H
        have c31b0 : (t1373 == 0) = false := beq_eq_false_iff_ne.mpr c31
        have c31b1 : (t1373 != 0) = true := bne_iff_ne.mpr c31
        obtain ⟨ji32, hji32⟩ : ∃ j_ : Int, (mn (wrap64 ((wrap64 (x7_2 - (Int.tmod x7_2 t1373))) + t1373)) (wrap64 (a1_0 + a1_1))) = j_ := ⟨_, rfl⟩
        replace H : (if x5_2.length < 5864062014805 then (impl_PiecesOf.l0 k2 (x5_2 ++ [(⟨x7_2, wrap64 ((ji32) - x7_2), decide ((ji32) < (wrap64 (a1_0 + a1_1)))⟩ : S86)]) t1373 ji32 (wrap64 (a1_0 + a1_1))) else (none)) = some r := by first | (rw [hji32] at H; exact H) | (simp only [hji32] at H ⊢; exact H)
        have hji32_ : (if (wrap64 (a1_0 + a1_1)) < (wrap64 ((wrap64 (x7_2 - (Int.tmod x7_2 t1373))) + t1373)) then (wrap64 (a1_0 + a1_1)) else (wrap64 ((wrap64 (x7_2 - (Int.tmod x7_2 t1373))) + t1373))) = ji32 := hji32
        by_cases c33 : x5_2.length < 5864062014805
        ·
         rw [if_pos c33] at H
         have LMc33 := Aside0.mk c33
         clear c33
         obtain ⟨y1374, hy1374⟩ : ∃ y_ : List (S86), y_ = (x5_2 ++ [(⟨x7_2, wrap64 ((ji32) - x7_2), decide ((ji32) < (wrap64 (a1_0 + a1_1)))⟩ : S86)]) := ⟨_, rfl⟩
         replace H : (impl_PiecesOf.l0 k2 y1374 t1373 ji32 (wrap64 (a1_0 + a1_1))) = some r := by first | (rw [hy1374]; with_reducible exact H) | (have H2_ := (Option.bind_some _ _).symm.trans H; rw [hy1374]; with_reducible exact H2_) | (have H2_ := (Option.bind_some _ _).symm.trans H; with_reducible exact H2_) | with_reducible exact H | (rw [hy1374]; exact H) | exact H
         have Ny1374 := Aside0.mk hy1374
         clear hy1374
         have H' := Aside0.mk H
         clear H
         go_wp2_with (first | ((with_reducible refine gate_builtin (b := .append) (xs := #[.tmp 48, .tmp 57]) rfl ?_); at_builtin; refine Kd.R_append k86 (w0 := w) w.heap.size rfl (.tmp 48) (.tmp 57) 81 86 (.agg #[(.int .i64 0), (.int .i64 0), (.bool false)]) 24 rfl Try.underlying81 info86 rfl (by decide) (by omega) u5 x5_2 (⟨x7_2, wrap64 ((ji32) - x7_2), decide ((ji32) < (wrap64 (a1_0 + a1_1)))⟩ : S86) [.int .i64 x7_2, .int .i64 (wrap64 ((ji32) - x7_2)), .bool (decide ((ji32) < (wrap64 (a1_0 + a1_1))))] (fun _ => True) (fun _ => False) rfl rfl ?aP (fun _ hk => hk.elim) ?aF ?aO ?aB ?aS ?aL ?_; (case aP => exact k86_mkM _ _ _ (⟨x7_2, wrap64 ((ji32) - x7_2), decide ((ji32) < (wrap64 (a1_0 + a1_1)))⟩ : S86)); (case aB => exact (by repeat (first | (with_reducible first | exact HB.out | apply below_alloc | apply pw_below_drewN | apply below_drew1 | refine below_set ?_ GE1365.out | refine below_set ?_ GE1366.out) | exact HB.out))); (case aF => exact (fun _ _ => trivial)); (case aO => exact (by (with_reducible repeat (first | apply Kd.R_alloc | apply Kd.R_drewN | apply Kd.R_drew)); exact HO_5.out)); (case aS => exact (below_size (by repeat (first | (with_reducible first | exact HB.out | apply below_alloc | apply pw_below_drewN | apply below_drew1 | refine below_set ?_ GE1365.out | refine below_set ?_ GE1366.out) | exact HB.out)))); (case aL => have := LMc33.out; omega); intro v1375 w34 ho hb hg hat; rw [← Ny1374.out] at ho; have n0_ := Aside0.mk (blk_grown (g := gb1365) (o := .cells #[.int .i64 a0_0, .int .i64 a0_1] 73 (0, 0)) (by (with_reducible repeat (first | refine blk_drewN ?_ _ | refine blk_drew ?_ | refine blk_alloc ?_ _)); exact BK1365.out) hg (Kd.R_ne HO_5.out BK1365.out (by decide))); have n1_ := Aside0.mk (blk_grown (g := gb1366) (o := .cells #[.int .i64 a1_0, .int .i64 a1_1, .int .i64 a1_2, .int .i64 a1_3] 26 (0, 0)) (by (with_reducible repeat (first | refine blk_drewN ?_ _ | refine blk_drew ?_ | refine blk_alloc ?_ _)); exact BK1366.out) hg (Kd.R_ne HO_5.out BK1366.out (by decide))); have n2_ := Aside0.mk (hb); have n3_ := Aside0.mk (ho); clear BK1365; clear BK1366; clear HB; clear HO_5; have BK1365 := n0_; have BK1366 := n1_; have HB := n2_; have HO1376 := n3_; clear n0_ n1_ n2_ n3_; clear ho hb hg hat))
         repeat (go_quiet (first | ((with_reducible refine gate_builtin (b := .append) (xs := #[.tmp 48, .tmp 57]) rfl ?_); at_builtin; refine Kd.R_append k86 (w0 := w) w.heap.size rfl (.tmp 48) (.tmp 57) 81 86 (.agg #[(.int .i64 0), (.int .i64 0), (.bool false)]) 24 rfl Try.underlying81 info86 rfl (by decide) (by omega) u5 x5_2 (⟨x7_2, wrap64 ((ji32) - x7_2), decide ((ji32) < (wrap64 (a1_0 + a1_1)))⟩ : S86) [.int .i64 x7_2, .int .i64 (wrap64 ((ji32) - x7_2)), .bool (decide ((ji32) < (wrap64 (a1_0 + a1_1))))] (fun _ => True) (fun _ => False) rfl rfl ?aP (fun _ hk => hk.elim) ?aF ?aO ?aB ?aS ?aL ?_; (case aP => exact k86_mkM _ _ _ (⟨x7_2, wrap64 ((ji32) - x7_2), decide ((ji32) < (wrap64 (a1_0 + a1_1)))⟩ : S86)); (case aB => exact (by repeat (first | (with_reducible first | exact HB.out | apply below_alloc | apply pw_below_drewN | apply below_drew1 | refine below_set ?_ GE1365.out | refine below_set ?_ GE1366.out) | exact HB.out))); (case aF => exact (fun _ _ => trivial)); (case aO => exact (by (with_reducible repeat (first | apply Kd.R_alloc | apply Kd.R_drewN | apply Kd.R_drew)); exact HO_5.out)); (case aS => exact (below_size (by repeat (first | (with_reducible first | exact HB.out | apply below_alloc | apply pw_below_drewN | apply below_drew1 | refine below_set ?_ GE1365.out | refine below_set ?_ GE1366.out) | exact HB.out)))); (case aL => have := LMc33.out; omega); intro v1375 w34 ho hb hg hat; rw [← Ny1374.out] at ho; have n0_ := Aside0.mk (blk_grown (g := gb1365) (o := .cells #[.int .i64 a0_0, .int .i64 a0_1] 73 (0, 0)) (by (with_reducible repeat (first | refine blk_drewN ?_ _ | refine blk_drew ?_ | refine blk_alloc ?_ _)); exact BK1365.out) hg (Kd.R_ne HO_5.out BK1365.out (by decide))); have n1_ := Aside0.mk (blk_grown (g := gb1366) (o := .cells #[.int .i64 a1_0, .int .i64 a1_1, .int .i64 a1_2, .int .i64 a1_3] 26 (0, 0)) (by (with_reducible repeat (first | refine blk_drewN ?_ _ | refine blk_drew ?_ | refine blk_alloc ?_ _)); exact BK1366.out) hg (Kd.R_ne HO_5.out BK1366.out (by decide))); have n2_ := Aside0.mk (hb); have n3_ := Aside0.mk (ho); clear BK1365; clear BK1366; clear HB; clear HO_5; have BK1365 := n0_; have BK1366 := n1_; have HB := n2_; have HO1376 := n3_; clear n0_ n1_ n2_ n3_; clear ho hb hg hat)); try go_wp2_with (first | ((with_reducible refine gate_builtin (b := .append) (xs := #[.tmp 48, .tmp 57]) rfl ?_); at_builtin; refine Kd.R_append k86 (w0 := w) w.heap.size rfl (.tmp 48) (.tmp 57) 81 86 (.agg #[(.int .i64 0), (.int .i64 0), (.bool false)]) 24 rfl Try.underlying81 info86 rfl (by decide) (by omega) u5 x5_2 (⟨x7_2, wrap64 ((ji32) - x7_2), decide ((ji32) < (wrap64 (a1_0 + a1_1)))⟩ : S86) [.int .i64 x7_2, .int .i64 (wrap64 ((ji32) - x7_2)), .bool (decide ((ji32) < (wrap64 (a1_0 + a1_1))))] (fun _ => True) (fun _ => False) rfl rfl ?aP (fun _ hk => hk.elim) ?aF ?aO ?aB ?aS ?aL ?_; (case aP => exact k86_mkM _ _ _ (⟨x7_2, wrap64 ((ji32) - x7_2), decide ((ji32) < (wrap64 (a1_0 + a1_1)))⟩ : S86)); (case aB => exact (by repeat (first | (with_reducible first | exact HB.out | apply below_alloc | apply pw_below_drewN | apply below_drew1 | refine below_set ?_ GE1365.out | refine below_set ?_ GE1366.out) | exact HB.out))); (case aF => exact (fun _ _ => trivial)); (case aO => exact (by (with_reducible repeat (first | apply Kd.R_alloc | apply Kd.R_drewN | apply Kd.R_drew)); exact HO_5.out)); (case aS => exact (below_size (by repeat (first | (with_reducible first | exact HB.out | apply below_alloc | apply pw_below_drewN | apply below_drew1 | refine below_set ?_ GE1365.out | refine below_set ?_ GE1366.out) | exact HB.out)))); (case aL => have := LMc33.out; omega); intro v1375 w34 ho hb hg hat; rw [← Ny1374.out] at ho; have n0_ := Aside0.mk (blk_grown (g := gb1365) (o := .cells #[.int .i64 a0_0, .int .i64 a0_1] 73 (0, 0)) (by (with_reducible repeat (first | refine blk_drewN ?_ _ | refine blk_drew ?_ | refine blk_alloc ?_ _)); exact BK1365.out) hg (Kd.R_ne HO_5.out BK1365.out (by decide))); have n1_ := Aside0.mk (blk_grown (g := gb1366) (o := .cells #[.int .i64 a1_0, .int .i64 a1_1, .int .i64 a1_2, .int .i64 a1_3] 26 (0, 0)) (by (with_reducible repeat (first | refine blk_drewN ?_ _ | refine blk_drew ?_ | refine blk_alloc ?_ _)); exact BK1366.out) hg (Kd.R_ne HO_5.out BK1366.out (by decide))); have n2_ := Aside0.mk (hb); have n3_ := Aside0.mk (ho); clear BK1365; clear BK1366; clear HB; clear HO_5; have BK1365 := n0_; have BK1366 := n1_; have HB := n2_; have HO1376 := n3_; clear n0_ n1_ n2_ n3_; clear ho hb hg hat)))
         go_roundg k2
         case measure => have := HJ2.out; have := HK2.out; omega
         case rel => exact ⟨(y1374), (ji32), (by first | rfl | (simp; done) | (simp only [← hji32] <;> (first | rfl | simp)) | (simp [*]; done)), H', ⟨by have := HJ2.out; have := HK2.out; omega⟩, ⟨by (with_reducible repeat (first | apply Kd.R_alloc | apply Kd.R_drewN | apply Kd.R_drew)); exact HO1376.out⟩, ⟨by (with_reducible repeat (first | refine blk_drewN ?_ _ | refine blk_drew ?_ | refine blk_alloc ?_ _)); exact BK1365.out⟩, ⟨by (with_reducible repeat (first | refine blk_drewN ?_ _ | refine blk_drew ?_ | refine blk_alloc ?_ _)); exact BK1366.out⟩, ⟨by repeat (first | (with_reducible first | exact HB.out | apply below_alloc | apply pw_below_drewN | apply below_drew1 | refine below_set ?_ GE1365.out | refine below_set ?_ GE1366.out) | exact HB.out)⟩⟩
        ·
         rw [if_neg c33] at H
         exact absurd H (by simp)
      ·
       rw [if_neg c30] at H
       have c30b0 : decide (x7_2 < (wrap64 (a1_0 + a1_1))) = false := decide_eq_false c30
       clear c30
       obtain rfl := Option.some.inj H
       go_wp2
       repeat (go_quiet (fail); try go_wp2)
       go_ret
       exact ⟨_, by first | rfl | (simp [errW_none, errW_some] <;> rfl) | (simp [*, errW_none, errW_some] <;> rfl), by (with_reducible repeat (first | apply Kd.R_alloc | apply Kd.R_drewN | apply Kd.R_drew)); exact HO_5.out, by repeat (first | (with_reducible first | exact HB.out | apply below_alloc | apply pw_below_drewN | apply below_drew1 | refine below_set ?_ GE1365.out | refine below_set ?_ GE1366.out) | exact HB.out)⟩
end Go.Proofs.Ytbhlmeghbfmgiaa.F

namespace Go.Proofs.Ytbhlmeghbfmgiaa.F
open Go.RowKit Go.Proofs.YtbhlmeghbfmgiaaW.PrintWords Go.Proofs.YtbhlmeghbfmgiaaW.PrintLast Go.Proofs.YtbhlmeghbfmgiaaW.PrintMore
attribute [local go_sem] max2_int min2_int max_two min_two max_three min_three max_four min_four
set_option linter.unusedVariables false
set_option linter.unusedSimpArgs false
def impl_JoinPieces.l0 : Nat → List (S86) → Int → List (S86) → Int → Int → Option (Int × Int × Bool)
 | 0, _, _, _, _, _ => none
 | k + 1, x0, x5, x12, x13, x14 => if x14 < x13 then (if 0 ≤ x14 then (if x14 < (x12.length : Int) then ((impl_InRange.f ((rd_T86 x12 x14).f1) 1 96).bind fun t1381 => (if t1381 = true then ((impl_InRange.f ((rd_T86 x12 x14).f0) 0 3000).bind fun t1382 => (if t1382 = true then (if x14 > 0 then (if 0 ≤ (wrap64 (x14 - 1)) then (if (wrap64 (x14 - 1)) < (x0.length : Int) then (if ((rd_T86 x12 x14).f0) = (wrap64 (((rd_T86 x0 (wrap64 (x14 - 1))).f0) + ((rd_T86 x0 (wrap64 (x14 - 1))).f1))) then (if (((rd_T86 x12 x14).f2) != (decide (x14 < (wrap64 ((x0.length : Int) - 1))))) = true then (some (0, 0, false)) else (impl_JoinPieces.l0 k x0 (wrap64 (x5 + ((rd_T86 x12 x14).f1))) x12 x13 (wrap64 (x14 + 1)))) else (some (0, 0, false))) else (none)) else (none)) else (if (((rd_T86 x12 x14).f2) != (decide (x14 < (wrap64 ((x0.length : Int) - 1))))) = true then (some (0, 0, false)) else (impl_JoinPieces.l0 k x0 (wrap64 (x5 + ((rd_T86 x12 x14).f1))) x12 x13 (wrap64 (x14 + 1))))) else (some (0, 0, false)))) else (some (0, 0, false)))) else (none)) else (none)) else (if 0 < (x0.length : Int) then (some ((rd_T86 x0 0).f0, x5, true)) else (none))
def impl_JoinPieces.f (k : Nat) (l0 : List (S86)) : Option (Int × Int × Bool) := (impl_InRange.f (l0.length : Int) 1 200).bind fun t1377 => (if t1377 = true then (impl_JoinPieces.l0 k l0 0 l0 (l0.length : Int) 0) else (some (0, 0, false)))
set_option maxHeartbeats 8000000 in
set_option maxRecDepth 100000 in
theorem impl_JoinPieces.calls (k : Nat) (A0 : Option Addr) (c0 : Nat) (l0 : List (S86)) (r1 : Int) (r2 : Int) (r3 : Bool) (w : World) (hr0 : Kd.C k86 w A0 l0.length l0) (hc0 : l0.length ≤ c0) (h : impl_JoinPieces.f k l0 = some (r1, r2, r3)) :
  Calls Try.prog 51 #[.slice A0 l0.length c0] w fun e w' => e = .returned (.tuple #[.int .i64 r1, .int .i64 r2, .bool r3]) ∧ Below w.heap.size w w' := by
 have hu86 := Try.underlying86
 have HR0 := Aside0.mk hr0
 have HC0 := Aside0.mk hc0
 clear hr0 hc0
 have HB := Aside0.mk (Below.refl w.heap.size w)
 have H : ((impl_InRange.f (l0.length : Int) 1 200).bind fun t1377 => (if t1377 = true then (impl_JoinPieces.l0 k l0 0 l0 (l0.length : Int) 0) else (some (0, 0, false)))) = some (r1, r2, r3) := h
 clear h
 replace H := Option.bind_eq_some_iff.mp H
 obtain ⟨t1377, A20, H⟩ := H
 try dsimp only at H
 have A2 := Aside0.mk A20
 clear A20
 by_cases c3 : t1377 = true
 ·
  subst c3
  rw [if_pos rfl] at H
  have H' := Aside0.mk H
  clear H
  go_enter Try.func51, Try.ntmps51
  go_wp2_with (first | ((with_reducible refine gate_callee (f := 86) rfl ?_); refine goesL_ (some 10) rfl rfl Try.func86 (by kernel_rfl) rfl #[.int .i64 (l0.length : Int), .int .i64 1, .int .i64 200] rfl (by (try simp only [List.map_toArray, List.map_cons, List.map_nil]); first | done | rfl | (simp only [List.length_drop, List.length_take]; rfl)) ?_; (with_reducible refine (impl_InRange.calls (l0.length : Int) 1 200 true _ A2.out).mono ?_); rintro e w' ⟨rfl, ⟨nd, rfl⟩⟩; refine ⟨_, rfl, ?_⟩))
  go_loopg [5, 14] k (fun kq v5 v14 w' => ∃ (x5_1 : Int) (x14_1 : Int), v5 = .int .i64 x5_1 ∧ v14 = .int .i64 x14_1 ∧ Aside0 (impl_JoinPieces.l0 kq l0 x5_1 l0 (l0.length : Int) x14_1 = some (r1, r2, r3)) ∧ Aside0 (kq ≤ k) ∧ Aside0 (Below w.heap.size w w'))
  case atStart => exact ⟨(0), (0), (by first | rfl | (simp; done) | (simp [*]; done)), (by first | rfl | (simp; done) | (simp [*]; done)), H', ⟨Nat.le_refl _⟩, ⟨by repeat (first | (with_reducible first | exact HB.out | apply below_alloc | apply pw_below_drewN | apply below_drew1) | exact HB.out)⟩⟩
  case round =>
   clear H'
   try clear p2
   try clear c3
   obtain ⟨x5_1, x14_1, rfl, rfl, HA, HK1, HB⟩ := hrel
   cases gk with
   | zero => exact absurd HA.out (by simp [impl_JoinPieces.l0])
   | succ k1 =>
    have H := HA.out
    clear HA
    simp only [impl_JoinPieces.l0] at H
    by_cases c4 : x14_1 < (l0.length : Int)
    ·
     rw [if_pos c4] at H
     have c4b0 : decide (x14_1 < (l0.length : Int)) = true := decide_eq_true c4
     clear c4
     by_cases c5 : 0 ≤ x14_1
     ·
      rw [if_pos c5] at H
      have c5b0 : decide (0 ≤ x14_1) = true := decide_eq_true c5
      clear c5
      by_cases c6 : x14_1 < (l0.length : Int)
      ·
       rw [if_pos c6] at H
       have c6b0 : decide (x14_1 < (l0.length : Int)) = true := decide_eq_true c6
       clear c6
       replace H := Option.bind_eq_some_iff.mp H
       obtain ⟨t1381, A70, H⟩ := H
       try dsimp only at H
       have A7 := Aside0.mk A70
       clear A70
       by_cases c8 : t1381 = true
       ·
        subst c8
        rw [if_pos rfl] at H
        replace H := Option.bind_eq_some_iff.mp H
        obtain ⟨t1382, A90, H⟩ := H
        try dsimp only at H
        have A9 := Aside0.mk A90
        clear A90
        by_cases c10 : t1382 = true
        ·
         subst c10
         rw [if_pos rfl] at H
         by_cases c11 : x14_1 > 0
         ·
          rw [if_pos c11] at H
          have c11b0 : decide (0 < x14_1) = true := decide_eq_true c11
          clear c11
          obtain ⟨ji12, hji12⟩ : ∃ j_ : Int, (wrap64 (x14_1 - 1)) = j_ := ⟨_, rfl⟩
          replace H : (if 0 ≤ (ji12) then (if (ji12) < (l0.length : Int) then (if ((rd_T86 l0 x14_1).f0) = (wrap64 (((rd_T86 l0 (ji12)).f0) + ((rd_T86 l0 (ji12)).f1))) then (if (((rd_T86 l0 x14_1).f2) != (decide (x14_1 < (wrap64 ((l0.length : Int) - 1))))) = true then (some (0, 0, false)) else (impl_JoinPieces.l0 k1 l0 (wrap64 (x5_1 + ((rd_T86 l0 x14_1).f1))) l0 (l0.length : Int) (wrap64 (x14_1 + 1)))) else (some (0, 0, false))) else (none)) else (none)) = some (r1, r2, r3) := by first | (rw [hji12] at H; exact H) | (simp only [hji12] at H ⊢; exact H)
          (try rw [hji12] at A7)
          (try rw [hji12] at A9)
          have hji12w : (IntKind.i64.wrap (x14_1 - 1)) = ji12 := (i64_w _).trans hji12
          by_cases c13 : 0 ≤ (ji12)
          ·
           rw [if_pos c13] at H
           have c13b0 : decide (0 ≤ (ji12)) = true := decide_eq_true c13
           clear c13
           by_cases c14 : (ji12) < (l0.length : Int)
           ·
            rw [if_pos c14] at H
            have c14b0 : decide ((ji12) < (l0.length : Int)) = true := decide_eq_true c14
            clear c14
            by_cases c15 : ((rd_T86 l0 x14_1).f0) = (wrap64 (((rd_T86 l0 (ji12)).f0) + ((rd_T86 l0 (ji12)).f1)))
            ·
             rw [if_pos c15] at H
             have c15b0 : (((rd_T86 l0 x14_1).f0) == (wrap64 (((rd_T86 l0 (ji12)).f0) + ((rd_T86 l0 (ji12)).f1)))) = true := beq_iff_eq.mpr c15
             have c15b1 : (((rd_T86 l0 x14_1).f0) != (wrap64 (((rd_T86 l0 (ji12)).f0) + ((rd_T86 l0 (ji12)).f1)))) = false := bne_eq_false_iff_eq.mpr c15
             clear c15
             by_cases c16 : (((rd_T86 l0 x14_1).f2) != (decide (x14_1 < (wrap64 ((l0.length : Int) - 1))))) = true
             ·
              rw [if_pos c16] at H
              have c16b0 : (((rd_T86 l0 x14_1).f2) != (decide (x14_1 < (wrap64 ((l0.length : Int) - 1))))) = true := c16
              (try (have c16b1 : decide (((rd_T86 l0 x14_1).f2) = (decide (x14_1 < (wrap64 ((l0.length : Int) - 1))))) = false := by simpa using c16))
              (try (have c16b2 : (((rd_T86 l0 x14_1).f2) == (decide (x14_1 < (wrap64 ((l0.length : Int) - 1))))) = false := by simpa using c16))
              (try (have c16b3 : ¬ (((rd_T86 l0 x14_1).f2) = (decide (x14_1 < (wrap64 ((l0.length : Int) - 1))))) := by simpa using c16))
              clear c16
              simp only [Option.some.injEq, Prod.mk.injEq] at H
              obtain ⟨rfl, rfl, rfl⟩ := H
              have p1379 : 0 ≤ (x14_1 : Int) := of_decide_eq_true (by first | (with_reducible assumption) | assumption)
              have q1379 : x14_1 < (l0.length : Int) := of_decide_eq_true (by first | (with_reducible assumption) | assumption)
              obtain ⟨ad1379, e1379, hx1379_0, hx1379_1, hx1379_2⟩ := at_T86 HR0.out x14_1 p1379 q1379
              cases e1379
              replace hx1379_0 := (HB.out.cell (World.block_lt_of_cell? w _ hx1379_0)).trans hx1379_0
              replace hx1379_1 := (HB.out.cell (World.block_lt_of_cell? w _ hx1379_1)).trans hx1379_1
              replace hx1379_2 := (HB.out.cell (World.block_lt_of_cell? w _ hx1379_2)).trans hx1379_2
              replace p1379 := eq_true p1379
              replace q1379 := eq_true q1379
              try go_wp2_with (first | ((with_reducible refine gate_dst (N := 7) rfl ?_); (try (refine gate_guard (by rfl) ?_; dsimp only)); refine box_event ?hg (N := 7) ?hd (cs := #[.int .i64 0, .int .i64 0, .bool false]) (t := 86) ?hr ?_; (case hd => rfl); (case hg => rfl); (case hr => first | (go_simp; done) | (go_simp; rfl)); intro gb1380 hg w17 hbox hb; have n0_ := Aside0.mk (below_step (by repeat (first | (with_reducible first | exact HB.out | apply below_alloc | apply pw_below_drewN | apply below_drew1) | exact HB.out)) hb); have n1_ := Aside0.mk (hbox); have n2_ := Aside0.mk ((by rw [hg]; exact (below_size (by repeat (first | (with_reducible first | exact HB.out | apply below_alloc | apply pw_below_drewN | apply below_drew1) | exact HB.out))) : w.heap.size ≤ gb1380)); have n3_ := Aside0.mk ((by rw [hg]; exact (below_size (by repeat (first | (with_reducible first | exact HB.out | apply below_alloc | apply pw_below_drewN | apply below_drew1) | exact HB.out))) : w.heap.size ≤ gb1380)); clear HB; have HB := n0_; have BK1380 := n1_; have GW1380 := n2_; have GE1380 := n3_; clear n0_ n1_ n2_ n3_; clear hb hbox hg; have hcz18_0 : w17.cell? ⟨gb1380, 0, none⟩ = some (.int .i64 0) := (blk_cell BK1380.out 0).trans rfl; have hcz18_1 : w17.cell? ⟨gb1380, 1, none⟩ = some (.int .i64 0) := (blk_cell BK1380.out 1).trans rfl; have hcz18_2 : w17.cell? ⟨gb1380, 2, none⟩ = some (.bool false) := (blk_cell BK1380.out 2).trans rfl; have hfz18_0 := blk_frozen BK1380.out 0; have hfz18_1 := blk_frozen BK1380.out 1; have hfz18_2 := blk_frozen BK1380.out 2))
              have n0_ : Aside0 ((((w17.setCell ⟨gb1380, 0, none⟩ (.int .i64 ((rd_T86 l0 x14_1).f0))).setCell ⟨gb1380, 1, none⟩ (.int .i64 ((rd_T86 l0 x14_1).f1))).setCell ⟨gb1380, 2, none⟩ (.bool ((rd_T86 l0 x14_1).f2))).heap[gb1380]? = some (.cells #[.int .i64 ((rd_T86 l0 x14_1).f0), .int .i64 ((rd_T86 l0 x14_1).f1), .bool ((rd_T86 l0 x14_1).f2)] 86 (0, 0))) := ⟨by (with_reducible repeat (first | refine blk_drewN ?_ _ | refine blk_drew ?_ | refine blk_alloc ?_ _)); refine blk_put (cs := #[.int .i64 ((rd_T86 l0 x14_1).f0), .int .i64 ((rd_T86 l0 x14_1).f1), .bool false]) ?_ 2 _ rfl; (with_reducible repeat (first | refine blk_drewN ?_ _ | refine blk_drew ?_ | refine blk_alloc ?_ _)); refine blk_put (cs := #[.int .i64 ((rd_T86 l0 x14_1).f0), .int .i64 0, .bool false]) ?_ 1 _ rfl; (with_reducible repeat (first | refine blk_drewN ?_ _ | refine blk_drew ?_ | refine blk_alloc ?_ _)); refine blk_put (cs := #[.int .i64 0, .int .i64 0, .bool false]) ?_ 0 _ rfl; (with_reducible repeat (first | refine blk_drewN ?_ _ | refine blk_drew ?_ | refine blk_alloc ?_ _)); exact BK1380.out⟩
              have n1_ : Aside0 (Below w.heap.size w (((w17.setCell ⟨gb1380, 0, none⟩ (.int .i64 ((rd_T86 l0 x14_1).f0))).setCell ⟨gb1380, 1, none⟩ (.int .i64 ((rd_T86 l0 x14_1).f1))).setCell ⟨gb1380, 2, none⟩ (.bool ((rd_T86 l0 x14_1).f2)))) := ⟨by repeat (first | (with_reducible first | exact HB.out | apply below_alloc | apply pw_below_drewN | apply below_drew1 | refine below_set ?_ GE1380.out) | exact HB.out)⟩
              (try clear BK1380)
              (try clear HB)
              generalize (((w17.setCell ⟨gb1380, 0, none⟩ (.int .i64 ((rd_T86 l0 x14_1).f0))).setCell ⟨gb1380, 1, none⟩ (.int .i64 ((rd_T86 l0 x14_1).f1))).setCell ⟨gb1380, 2, none⟩ (.bool ((rd_T86 l0 x14_1).f2))) = w19 at n0_ n1_ ⊢
              have BK1380 := n0_
              have HB := n1_
              clear n0_ n1_
              have n0_ := Aside0.mk (blk_drew BK1380.out)
              have n1_ := Aside0.mk (below_drew1 HB.out)
              clear BK1380
              clear HB
              have BK1380 := n0_
              have HB := n1_
              clear n0_ n1_
              have p1383 : 0 ≤ ((ji12) : Int) := of_decide_eq_true (by first | (with_reducible assumption) | assumption)
              have q1383 : (ji12) < (l0.length : Int) := of_decide_eq_true (by first | (with_reducible assumption) | assumption)
              obtain ⟨ad1383, e1383, hx1383_0, hx1383_1, hx1383_2⟩ := at_T86 HR0.out (ji12) p1383 q1383
              have hw1383_2 := hx1383_2
              have hw1383_1 := hx1383_1
              have hw1383_0 := hx1383_0
              obtain rfl : ad1379 = ad1383 := (by injection e1383)
              replace hx1383_0 := (HB.out.cell (World.block_lt_of_cell? w _ hx1383_0)).trans hx1383_0
              replace hx1383_1 := (HB.out.cell (World.block_lt_of_cell? w _ hx1383_1)).trans hx1383_1
              replace hx1383_2 := (HB.out.cell (World.block_lt_of_cell? w _ hx1383_2)).trans hx1383_2
              replace p1383 := eq_true p1383
              replace q1383 := eq_true q1383
              have p1384 : 0 ≤ ((ji12) : Int) := of_decide_eq_true (by first | (with_reducible assumption) | assumption)
              have q1384 : (ji12) < (l0.length : Int) := of_decide_eq_true (by first | (with_reducible assumption) | assumption)
              obtain ⟨ad1384, e1384, hx1384_0, hx1384_1, hx1384_2⟩ := at_T86 HR0.out (ji12) p1384 q1384
              have hw1384_2 := hx1384_2
              have hw1384_1 := hx1384_1
              have hw1384_0 := hx1384_0
              obtain rfl : ad1379 = ad1384 := (by injection e1384)
              replace hx1384_0 := (HB.out.cell (World.block_lt_of_cell? w _ hx1384_0)).trans hx1384_0
              replace hx1384_1 := (HB.out.cell (World.block_lt_of_cell? w _ hx1384_1)).trans hx1384_1
              replace hx1384_2 := (HB.out.cell (World.block_lt_of_cell? w _ hx1384_2)).trans hx1384_2
              replace p1384 := eq_true p1384
              replace q1384 := eq_true q1384
              have hq0_ : w19.cell? ⟨gb1380, 0, none⟩ = some (.int .i64 ((rd_T86 l0 x14_1).f0)) := (blk_cell BK1380.out 0).trans rfl
              have hq1_ : w19.cell? ⟨gb1380, 1, none⟩ = some (.int .i64 ((rd_T86 l0 x14_1).f1)) := (blk_cell BK1380.out 1).trans rfl
              have hq2_ : w19.cell? ⟨gb1380, 2, none⟩ = some (.bool ((rd_T86 l0 x14_1).f2)) := (blk_cell BK1380.out 2).trans rfl
              have hq3_ : w19.cell? (ad1379.add (((ji12)).toNat * 3)) = some (.int .i64 ((rd_T86 l0 (ji12)).f0)) := ((HB.out.cell (World.block_lt_of_cell? w _ hw1383_0)).trans hw1383_0)
              have hq4_ : w19.cell? ⟨(ad1379.add (((ji12)).toNat * 3)).block, (ad1379.add (((ji12)).toNat * 3)).off + 1, none⟩ = some (.int .i64 ((rd_T86 l0 (ji12)).f1)) := ((HB.out.cell (World.block_lt_of_cell? w _ hw1383_1)).trans hw1383_1)
              have hq5_ : w19.cell? ⟨(ad1379.add (((ji12)).toNat * 3)).block, (ad1379.add (((ji12)).toNat * 3)).off + 2, none⟩ = some (.bool ((rd_T86 l0 (ji12)).f2)) := ((HB.out.cell (World.block_lt_of_cell? w _ hw1383_2)).trans hw1383_2)
              have hq6_ : w19.cell? (ad1379.add (((ji12)).toNat * 3)) = some (.int .i64 ((rd_T86 l0 (ji12)).f0)) := ((HB.out.cell (World.block_lt_of_cell? w _ hw1384_0)).trans hw1384_0)
              have hq7_ : w19.cell? ⟨(ad1379.add (((ji12)).toNat * 3)).block, (ad1379.add (((ji12)).toNat * 3)).off + 1, none⟩ = some (.int .i64 ((rd_T86 l0 (ji12)).f1)) := ((HB.out.cell (World.block_lt_of_cell? w _ hw1384_1)).trans hw1384_1)
              have hq8_ : w19.cell? ⟨(ad1379.add (((ji12)).toNat * 3)).block, (ad1379.add (((ji12)).toNat * 3)).off + 2, none⟩ = some (.bool ((rd_T86 l0 (ji12)).f2)) := ((HB.out.cell (World.block_lt_of_cell? w _ hw1384_2)).trans hw1384_2)
              go_quiet ((first | (go_at_call 86; apply Calls.quiet_of; ((with_reducible refine (impl_InRange.calls ((rd_T86 l0 x14_1).f1) 1 96 true _ A7.out).mono ?_); exact fun _ _ h_ => ⟨h_.1, h_.2.out⟩)) | (go_at_call 86; apply Calls.quiet_of; ((with_reducible refine (impl_InRange.calls ((rd_T86 l0 x14_1).f0) 0 3000 true _ A9.out).mono ?_); exact fun _ _ h_ => ⟨h_.1, h_.2.out⟩))))
              have nBK1380_ := Aside0.mk (blk_drewN (w := w19) BK1380.out nq)
              have nHB_ := Aside0.mk (pw_below_drewN (W := w19) ⟨HB.out.os, HB.out.tape, HB.out.output, HB.out.size, HB.out.block⟩ nq)
              have nhx1383_0_ : (w19.drewN nq).cell? _ = _ := hx1383_0
              have nhx1383_1_ : (w19.drewN nq).cell? _ = _ := hx1383_1
              have nhx1383_2_ : (w19.drewN nq).cell? _ = _ := hx1383_2
              have nhx1384_0_ : (w19.drewN nq).cell? _ = _ := hx1384_0
              have nhx1384_1_ : (w19.drewN nq).cell? _ = _ := hx1384_1
              have nhx1384_2_ : (w19.drewN nq).cell? _ = _ := hx1384_2
              clear BK1380 HB hx1383_0 hx1383_1 hx1383_2 hx1384_0 hx1384_1 hx1384_2 hq0_ hq1_ hq2_ hq3_ hq4_ hq5_ hq6_ hq7_ hq8_
              have BK1380 := nBK1380_
              have HB := nHB_
              have hx1383_0 := nhx1383_0_
              have hx1383_1 := nhx1383_1_
              have hx1383_2 := nhx1383_2_
              have hx1384_0 := nhx1384_0_
              have hx1384_1 := nhx1384_1_
              have hx1384_2 := nhx1384_2_
              clear nBK1380_ nHB_ nhx1383_0_ nhx1383_1_ nhx1383_2_ nhx1384_0_ nhx1384_1_ nhx1384_2_
              generalize w19.drewN nq = w20 at BK1380 HB hx1383_0 hx1383_1 hx1383_2 hx1384_0 hx1384_1 hx1384_2 ⊢
              try go_wp2
              go_ret3
              exact ⟨by first | rfl | (simp [errW_none, errW_some] <;> rfl) | (simp only [← hji12]; first | rfl | (simp [errW_none, errW_some] <;> rfl)) | (simp [*, errW_none, errW_some] <;> rfl), by repeat (first | (with_reducible first | exact HB.out | apply below_alloc | apply pw_below_drewN | apply below_drew1 | refine below_set ?_ GE1380.out) | exact HB.out)⟩
             ·
              rw [if_neg c16] at H
              have c16b0 : (((rd_T86 l0 x14_1).f2) != (decide (x14_1 < (wrap64 ((l0.length : Int) - 1))))) = false := by simpa using c16
              (try (have c16b1 : decide (((rd_T86 l0 x14_1).f2) = (decide (x14_1 < (wrap64 ((l0.length : Int) - 1))))) = true := by simpa using c16))
              (try (have c16b2 : (((rd_T86 l0 x14_1).f2) == (decide (x14_1 < (wrap64 ((l0.length : Int) - 1))))) = true := by simpa using c16))
              clear c16
              have H' := Aside0.mk H
              clear H
              have p1379 : 0 ≤ (x14_1 : Int) := of_decide_eq_true (by first | (with_reducible assumption) | assumption)
              have q1379 : x14_1 < (l0.length : Int) := of_decide_eq_true (by first | (with_reducible assumption) | assumption)
              obtain ⟨ad1379, e1379, hx1379_0, hx1379_1, hx1379_2⟩ := at_T86 HR0.out x14_1 p1379 q1379
              cases e1379
              replace hx1379_0 := (HB.out.cell (World.block_lt_of_cell? w _ hx1379_0)).trans hx1379_0
              replace hx1379_1 := (HB.out.cell (World.block_lt_of_cell? w _ hx1379_1)).trans hx1379_1
              replace hx1379_2 := (HB.out.cell (World.block_lt_of_cell? w _ hx1379_2)).trans hx1379_2
              replace p1379 := eq_true p1379
              replace q1379 := eq_true q1379
              try go_wp2_with (first | ((with_reducible refine gate_dst (N := 7) rfl ?_); (try (refine gate_guard (by rfl) ?_; dsimp only)); refine box_event ?hg (N := 7) ?hd (cs := #[.int .i64 0, .int .i64 0, .bool false]) (t := 86) ?hr ?_; (case hd => rfl); (case hg => rfl); (case hr => first | (go_simp; done) | (go_simp; rfl)); intro gb1380 hg w21 hbox hb; have n0_ := Aside0.mk (below_step (by repeat (first | (with_reducible first | exact HB.out | apply below_alloc | apply pw_below_drewN | apply below_drew1) | exact HB.out)) hb); have n1_ := Aside0.mk (hbox); have n2_ := Aside0.mk ((by rw [hg]; exact (below_size (by repeat (first | (with_reducible first | exact HB.out | apply below_alloc | apply pw_below_drewN | apply below_drew1) | exact HB.out))) : w.heap.size ≤ gb1380)); have n3_ := Aside0.mk ((by rw [hg]; exact (below_size (by repeat (first | (with_reducible first | exact HB.out | apply below_alloc | apply pw_below_drewN | apply below_drew1) | exact HB.out))) : w.heap.size ≤ gb1380)); clear HB; have HB := n0_; have BK1380 := n1_; have GW1380 := n2_; have GE1380 := n3_; clear n0_ n1_ n2_ n3_; clear hb hbox hg; have hcz22_0 : w21.cell? ⟨gb1380, 0, none⟩ = some (.int .i64 0) := (blk_cell BK1380.out 0).trans rfl; have hcz22_1 : w21.cell? ⟨gb1380, 1, none⟩ = some (.int .i64 0) := (blk_cell BK1380.out 1).trans rfl; have hcz22_2 : w21.cell? ⟨gb1380, 2, none⟩ = some (.bool false) := (blk_cell BK1380.out 2).trans rfl; have hfz22_0 := blk_frozen BK1380.out 0; have hfz22_1 := blk_frozen BK1380.out 1; have hfz22_2 := blk_frozen BK1380.out 2))
              have n0_ : Aside0 ((((w21.setCell ⟨gb1380, 0, none⟩ (.int .i64 ((rd_T86 l0 x14_1).f0))).setCell ⟨gb1380, 1, none⟩ (.int .i64 ((rd_T86 l0 x14_1).f1))).setCell ⟨gb1380, 2, none⟩ (.bool ((rd_T86 l0 x14_1).f2))).heap[gb1380]? = some (.cells #[.int .i64 ((rd_T86 l0 x14_1).f0), .int .i64 ((rd_T86 l0 x14_1).f1), .bool ((rd_T86 l0 x14_1).f2)] 86 (0, 0))) := ⟨by (with_reducible repeat (first | refine blk_drewN ?_ _ | refine blk_drew ?_ | refine blk_alloc ?_ _)); refine blk_put (cs := #[.int .i64 ((rd_T86 l0 x14_1).f0), .int .i64 ((rd_T86 l0 x14_1).f1), .bool false]) ?_ 2 _ rfl; (with_reducible repeat (first | refine blk_drewN ?_ _ | refine blk_drew ?_ | refine blk_alloc ?_ _)); refine blk_put (cs := #[.int .i64 ((rd_T86 l0 x14_1).f0), .int .i64 0, .bool false]) ?_ 1 _ rfl; (with_reducible repeat (first | refine blk_drewN ?_ _ | refine blk_drew ?_ | refine blk_alloc ?_ _)); refine blk_put (cs := #[.int .i64 0, .int .i64 0, .bool false]) ?_ 0 _ rfl; (with_reducible repeat (first | refine blk_drewN ?_ _ | refine blk_drew ?_ | refine blk_alloc ?_ _)); exact BK1380.out⟩
              have n1_ : Aside0 (Below w.heap.size w (((w21.setCell ⟨gb1380, 0, none⟩ (.int .i64 ((rd_T86 l0 x14_1).f0))).setCell ⟨gb1380, 1, none⟩ (.int .i64 ((rd_T86 l0 x14_1).f1))).setCell ⟨gb1380, 2, none⟩ (.bool ((rd_T86 l0 x14_1).f2)))) := ⟨by repeat (first | (with_reducible first | exact HB.out | apply below_alloc | apply pw_below_drewN | apply below_drew1 | refine below_set ?_ GE1380.out) | exact HB.out)⟩
              (try clear BK1380)
              (try clear HB)
              generalize (((w21.setCell ⟨gb1380, 0, none⟩ (.int .i64 ((rd_T86 l0 x14_1).f0))).setCell ⟨gb1380, 1, none⟩ (.int .i64 ((rd_T86 l0 x14_1).f1))).setCell ⟨gb1380, 2, none⟩ (.bool ((rd_T86 l0 x14_1).f2))) = w23 at n0_ n1_ ⊢
              have BK1380 := n0_
              have HB := n1_
              clear n0_ n1_
              have n0_ := Aside0.mk (blk_drew BK1380.out)
              have n1_ := Aside0.mk (below_drew1 HB.out)
              clear BK1380
              clear HB
              have BK1380 := n0_
              have HB := n1_
              clear n0_ n1_
              have p1383 : 0 ≤ ((ji12) : Int) := of_decide_eq_true (by first | (with_reducible assumption) | assumption)
              have q1383 : (ji12) < (l0.length : Int) := of_decide_eq_true (by first | (with_reducible assumption) | assumption)
              obtain ⟨ad1383, e1383, hx1383_0, hx1383_1, hx1383_2⟩ := at_T86 HR0.out (ji12) p1383 q1383
              have hw1383_2 := hx1383_2
              have hw1383_1 := hx1383_1
              have hw1383_0 := hx1383_0
              obtain rfl : ad1379 = ad1383 := (by injection e1383)
              replace hx1383_0 := (HB.out.cell (World.block_lt_of_cell? w _ hx1383_0)).trans hx1383_0
              replace hx1383_1 := (HB.out.cell (World.block_lt_of_cell? w _ hx1383_1)).trans hx1383_1
              replace hx1383_2 := (HB.out.cell (World.block_lt_of_cell? w _ hx1383_2)).trans hx1383_2
              replace p1383 := eq_true p1383
              replace q1383 := eq_true q1383
              have p1384 : 0 ≤ ((ji12) : Int) := of_decide_eq_true (by first | (with_reducible assumption) | assumption)
              have q1384 : (ji12) < (l0.length : Int) := of_decide_eq_true (by first | (with_reducible assumption) | assumption)
              obtain ⟨ad1384, e1384, hx1384_0, hx1384_1, hx1384_2⟩ := at_T86 HR0.out (ji12) p1384 q1384
              have hw1384_2 := hx1384_2
              have hw1384_1 := hx1384_1
              have hw1384_0 := hx1384_0
              obtain rfl : ad1379 = ad1384 := (by injection e1384)
              replace hx1384_0 := (HB.out.cell (World.block_lt_of_cell? w _ hx1384_0)).trans hx1384_0
              replace hx1384_1 := (HB.out.cell (World.block_lt_of_cell? w _ hx1384_1)).trans hx1384_1
              replace hx1384_2 := (HB.out.cell (World.block_lt_of_cell? w _ hx1384_2)).trans hx1384_2
              replace p1384 := eq_true p1384
              replace q1384 := eq_true q1384
              have hq0_ : w23.cell? ⟨gb1380, 0, none⟩ = some (.int .i64 ((rd_T86 l0 x14_1).f0)) := (blk_cell BK1380.out 0).trans rfl
              have hq1_ : w23.cell? ⟨gb1380, 1, none⟩ = some (.int .i64 ((rd_T86 l0 x14_1).f1)) := (blk_cell BK1380.out 1).trans rfl
              have hq2_ : w23.cell? ⟨gb1380, 2, none⟩ = some (.bool ((rd_T86 l0 x14_1).f2)) := (blk_cell BK1380.out 2).trans rfl
              have hq3_ : w23.cell? (ad1379.add (((ji12)).toNat * 3)) = some (.int .i64 ((rd_T86 l0 (ji12)).f0)) := ((HB.out.cell (World.block_lt_of_cell? w _ hw1383_0)).trans hw1383_0)
              have hq4_ : w23.cell? ⟨(ad1379.add (((ji12)).toNat * 3)).block, (ad1379.add (((ji12)).toNat * 3)).off + 1, none⟩ = some (.int .i64 ((rd_T86 l0 (ji12)).f1)) := ((HB.out.cell (World.block_lt_of_cell? w _ hw1383_1)).trans hw1383_1)
              have hq5_ : w23.cell? ⟨(ad1379.add (((ji12)).toNat * 3)).block, (ad1379.add (((ji12)).toNat * 3)).off + 2, none⟩ = some (.bool ((rd_T86 l0 (ji12)).f2)) := ((HB.out.cell (World.block_lt_of_cell? w _ hw1383_2)).trans hw1383_2)
              have hq6_ : w23.cell? (ad1379.add (((ji12)).toNat * 3)) = some (.int .i64 ((rd_T86 l0 (ji12)).f0)) := ((HB.out.cell (World.block_lt_of_cell? w _ hw1384_0)).trans hw1384_0)
              have hq7_ : w23.cell? ⟨(ad1379.add (((ji12)).toNat * 3)).block, (ad1379.add (((ji12)).toNat * 3)).off + 1, none⟩ = some (.int .i64 ((rd_T86 l0 (ji12)).f1)) := ((HB.out.cell (World.block_lt_of_cell? w _ hw1384_1)).trans hw1384_1)
              have hq8_ : w23.cell? ⟨(ad1379.add (((ji12)).toNat * 3)).block, (ad1379.add (((ji12)).toNat * 3)).off + 2, none⟩ = some (.bool ((rd_T86 l0 (ji12)).f2)) := ((HB.out.cell (World.block_lt_of_cell? w _ hw1384_2)).trans hw1384_2)
              go_quiet ((first | (go_at_call 86; apply Calls.quiet_of; ((with_reducible refine (impl_InRange.calls ((rd_T86 l0 x14_1).f1) 1 96 true _ A7.out).mono ?_); exact fun _ _ h_ => ⟨h_.1, h_.2.out⟩)) | (go_at_call 86; apply Calls.quiet_of; ((with_reducible refine (impl_InRange.calls ((rd_T86 l0 x14_1).f0) 0 3000 true _ A9.out).mono ?_); exact fun _ _ h_ => ⟨h_.1, h_.2.out⟩))))
              have nBK1380_ := Aside0.mk (blk_drewN (w := w23) BK1380.out nq)
              have nHB_ := Aside0.mk (pw_below_drewN (W := w23) ⟨HB.out.os, HB.out.tape, HB.out.output, HB.out.size, HB.out.block⟩ nq)
              have nhx1383_0_ : (w23.drewN nq).cell? _ = _ := hx1383_0
              have nhx1383_1_ : (w23.drewN nq).cell? _ = _ := hx1383_1
              have nhx1383_2_ : (w23.drewN nq).cell? _ = _ := hx1383_2
              have nhx1384_0_ : (w23.drewN nq).cell? _ = _ := hx1384_0
              have nhx1384_1_ : (w23.drewN nq).cell? _ = _ := hx1384_1
              have nhx1384_2_ : (w23.drewN nq).cell? _ = _ := hx1384_2
              clear BK1380 HB hx1383_0 hx1383_1 hx1383_2 hx1384_0 hx1384_1 hx1384_2 hq0_ hq1_ hq2_ hq3_ hq4_ hq5_ hq6_ hq7_ hq8_
              have BK1380 := nBK1380_
              have HB := nHB_
              have hx1383_0 := nhx1383_0_
              have hx1383_1 := nhx1383_1_
              have hx1383_2 := nhx1383_2_
              have hx1384_0 := nhx1384_0_
              have hx1384_1 := nhx1384_1_
              have hx1384_2 := nhx1384_2_
              clear nBK1380_ nHB_ nhx1383_0_ nhx1383_1_ nhx1383_2_ nhx1384_0_ nhx1384_1_ nhx1384_2_
              generalize w23.drewN nq = w24 at BK1380 HB hx1383_0 hx1383_1 hx1383_2 hx1384_0 hx1384_1 hx1384_2 ⊢
              have hcz25_0 : w24.cell? ⟨gb1380, 0, none⟩ = some (.int .i64 ((rd_T86 l0 x14_1).f0)) := (blk_cell BK1380.out 0).trans rfl
              have hcz25_1 : w24.cell? ⟨gb1380, 1, none⟩ = some (.int .i64 ((rd_T86 l0 x14_1).f1)) := (blk_cell BK1380.out 1).trans rfl
              have hcz25_2 : w24.cell? ⟨gb1380, 2, none⟩ = some (.bool ((rd_T86 l0 x14_1).f2)) := (blk_cell BK1380.out 2).trans rfl
              have hfz25_0 := blk_frozen BK1380.out 0
              have hfz25_1 := blk_frozen BK1380.out 1
              have hfz25_2 := blk_frozen BK1380.out 2
              try go_wp2
              go_roundg k1
              case measure => have := HK1.out; omega
              case rel => exact ⟨(wrap64 (x5_1 + ((rd_T86 l0 x14_1).f1))), (wrap64 (x14_1 + 1)), (by first | rfl | (simp; done) | (simp [*]; done)), (by first | rfl | (simp; done) | (simp [*]; done)), H', ⟨by have := HK1.out; omega⟩, ⟨by repeat (first | (with_reducible first | exact HB.out | apply below_alloc | apply pw_below_drewN | apply below_drew1 | refine below_set ?_ GE1380.out) | exact HB.out)⟩⟩
            ·
             rw [if_neg c15] at H
             have c15b0 : (((rd_T86 l0 x14_1).f0) == (wrap64 (((rd_T86 l0 (ji12)).f0) + ((rd_T86 l0 (ji12)).f1)))) = false := beq_eq_false_iff_ne.mpr c15
             have c15b1 : (((rd_T86 l0 x14_1).f0) != (wrap64 (((rd_T86 l0 (ji12)).f0) + ((rd_T86 l0 (ji12)).f1)))) = true := bne_iff_ne.mpr c15
             simp only [Option.some.injEq, Prod.mk.injEq] at H
             obtain ⟨rfl, rfl, rfl⟩ := H
             have p1379 : 0 ≤ (x14_1 : Int) := of_decide_eq_true (by first | (with_reducible assumption) | assumption)
             have q1379 : x14_1 < (l0.length : Int) := of_decide_eq_true (by first | (with_reducible assumption) | assumption)
             obtain ⟨ad1379, e1379, hx1379_0, hx1379_1, hx1379_2⟩ := at_T86 HR0.out x14_1 p1379 q1379
             cases e1379
             replace hx1379_0 := (HB.out.cell (World.block_lt_of_cell? w _ hx1379_0)).trans hx1379_0
             replace hx1379_1 := (HB.out.cell (World.block_lt_of_cell? w _ hx1379_1)).trans hx1379_1
             replace hx1379_2 := (HB.out.cell (World.block_lt_of_cell? w _ hx1379_2)).trans hx1379_2
             replace p1379 := eq_true p1379
             replace q1379 := eq_true q1379
             try go_wp2_with (first | ((with_reducible refine gate_dst (N := 7) rfl ?_); (try (refine gate_guard (by rfl) ?_; dsimp only)); refine box_event ?hg (N := 7) ?hd (cs := #[.int .i64 0, .int .i64 0, .bool false]) (t := 86) ?hr ?_; (case hd => rfl); (case hg => rfl); (case hr => first | (go_simp; done) | (go_simp; rfl)); intro gb1380 hg w26 hbox hb; have n0_ := Aside0.mk (below_step (by repeat (first | (with_reducible first | exact HB.out | apply below_alloc | apply pw_below_drewN | apply below_drew1) | exact HB.out)) hb); have n1_ := Aside0.mk (hbox); have n2_ := Aside0.mk ((by rw [hg]; exact (below_size (by repeat (first | (with_reducible first | exact HB.out | apply below_alloc | apply pw_below_drewN | apply below_drew1) | exact HB.out))) : w.heap.size ≤ gb1380)); have n3_ := Aside0.mk ((by rw [hg]; exact (below_size (by repeat (first | (with_reducible first | exact HB.out | apply below_alloc | apply pw_below_drewN | apply below_drew1) | exact HB.out))) : w.heap.size ≤ gb1380)); clear HB; have HB := n0_; have BK1380 := n1_; have GW1380 := n2_; have GE1380 := n3_; clear n0_ n1_ n2_ n3_; clear hb hbox hg; have hcz27_0 : w26.cell? ⟨gb1380, 0, none⟩ = some (.int .i64 0) := (blk_cell BK1380.out 0).trans rfl; have hcz27_1 : w26.cell? ⟨gb1380, 1, none⟩ = some (.int .i64 0) := (blk_cell BK1380.out 1).trans rfl; have hcz27_2 : w26.cell? ⟨gb1380, 2, none⟩ = some (.bool false) := (blk_cell BK1380.out 2).trans rfl; have hfz27_0 := blk_frozen BK1380.out 0; have hfz27_1 := blk_frozen BK1380.out 1; have hfz27_2 := blk_frozen BK1380.out 2))
             have n0_ : Aside0 ((((w26.setCell ⟨gb1380, 0, none⟩ (.int .i64 ((rd_T86 l0 x14_1).f0))).setCell ⟨gb1380, 1, none⟩ (.int .i64 ((rd_T86 l0 x14_1).f1))).setCell ⟨gb1380, 2, none⟩ (.bool ((rd_T86 l0 x14_1).f2))).heap[gb1380]? = some (.cells #[.int .i64 ((rd_T86 l0 x14_1).f0), .int .i64 ((rd_T86 l0 x14_1).f1), .bool ((rd_T86 l0 x14_1).f2)] 86 (0, 0))) := ⟨by (with_reducible repeat (first | refine blk_drewN ?_ _ | refine blk_drew ?_ | refine blk_alloc ?_ _)); refine blk_put (cs := #[.int .i64 ((rd_T86 l0 x14_1).f0), .int .i64 ((rd_T86 l0 x14_1).f1), .bool false]) ?_ 2 _ rfl; (with_reducible repeat (first | refine blk_drewN ?_ _ | refine blk_drew ?_ | refine blk_alloc ?_ _)); refine blk_put (cs := #[.int .i64 ((rd_T86 l0 x14_1).f0), .int .i64 0, .bool false]) ?_ 1 _ rfl; (with_reducible repeat (first | refine blk_drewN ?_ _ | refine blk_drew ?_ | refine blk_alloc ?_ _)); refine blk_put (cs := #[.int .i64 0, .int .i64 0, .bool false]) ?_ 0 _ rfl; (with_reducible repeat (first | refine blk_drewN ?_ _ | refine blk_drew ?_ | refine blk_alloc ?_ _)); exact BK1380.out⟩
             have n1_ : Aside0 (Below w.heap.size w (((w26.setCell ⟨gb1380, 0, none⟩ (.int .i64 ((rd_T86 l0 x14_1).f0))).setCell ⟨gb1380, 1, none⟩ (.int .i64 ((rd_T86 l0 x14_1).f1))).setCell ⟨gb1380, 2, none⟩ (.bool ((rd_T86 l0 x14_1).f2)))) := ⟨by repeat (first | (with_reducible first | exact HB.out | apply below_alloc | apply pw_below_drewN | apply below_drew1 | refine below_set ?_ GE1380.out) | exact HB.out)⟩
             (try clear BK1380)
             (try clear HB)
             generalize (((w26.setCell ⟨gb1380, 0, none⟩ (.int .i64 ((rd_T86 l0 x14_1).f0))).setCell ⟨gb1380, 1, none⟩ (.int .i64 ((rd_T86 l0 x14_1).f1))).setCell ⟨gb1380, 2, none⟩ (.bool ((rd_T86 l0 x14_1).f2))) = w28 at n0_ n1_ ⊢
             have BK1380 := n0_
             have HB := n1_
             clear n0_ n1_
             have n0_ := Aside0.mk (blk_drew BK1380.out)
             have n1_ := Aside0.mk (below_drew1 HB.out)
             clear BK1380
             clear HB
             have BK1380 := n0_
             have HB := n1_
             clear n0_ n1_
             have p1383 : 0 ≤ ((ji12) : Int) := of_decide_eq_true (by first | (with_reducible assumption) | assumption)
             have q1383 : (ji12) < (l0.length : Int) := of_decide_eq_true (by first | (with_reducible assumption) | assumption)
             obtain ⟨ad1383, e1383, hx1383_0, hx1383_1, hx1383_2⟩ := at_T86 HR0.out (ji12) p1383 q1383
             have hw1383_2 := hx1383_2
             have hw1383_1 := hx1383_1
             have hw1383_0 := hx1383_0
             obtain rfl : ad1379 = ad1383 := (by injection e1383)
             replace hx1383_0 := (HB.out.cell (World.block_lt_of_cell? w _ hx1383_0)).trans hx1383_0
             replace hx1383_1 := (HB.out.cell (World.block_lt_of_cell? w _ hx1383_1)).trans hx1383_1
             replace hx1383_2 := (HB.out.cell (World.block_lt_of_cell? w _ hx1383_2)).trans hx1383_2
             replace p1383 := eq_true p1383
             replace q1383 := eq_true q1383
             have p1384 : 0 ≤ ((ji12) : Int) := of_decide_eq_true (by first | (with_reducible assumption) | assumption)
             have q1384 : (ji12) < (l0.length : Int) := of_decide_eq_true (by first | (with_reducible assumption) | assumption)
             obtain ⟨ad1384, e1384, hx1384_0, hx1384_1, hx1384_2⟩ := at_T86 HR0.out (ji12) p1384 q1384
             have hw1384_2 := hx1384_2
             have hw1384_1 := hx1384_1
             have hw1384_0 := hx1384_0
             obtain rfl : ad1379 = ad1384 := (by injection e1384)
             replace hx1384_0 := (HB.out.cell (World.block_lt_of_cell? w _ hx1384_0)).trans hx1384_0
             replace hx1384_1 := (HB.out.cell (World.block_lt_of_cell? w _ hx1384_1)).trans hx1384_1
             replace hx1384_2 := (HB.out.cell (World.block_lt_of_cell? w _ hx1384_2)).trans hx1384_2
             replace p1384 := eq_true p1384
             replace q1384 := eq_true q1384
             have hq0_ : w28.cell? ⟨gb1380, 0, none⟩ = some (.int .i64 ((rd_T86 l0 x14_1).f0)) := (blk_cell BK1380.out 0).trans rfl
             have hq1_ : w28.cell? ⟨gb1380, 1, none⟩ = some (.int .i64 ((rd_T86 l0 x14_1).f1)) := (blk_cell BK1380.out 1).trans rfl
             have hq2_ : w28.cell? ⟨gb1380, 2, none⟩ = some (.bool ((rd_T86 l0 x14_1).f2)) := (blk_cell BK1380.out 2).trans rfl
             have hq3_ : w28.cell? (ad1379.add (((ji12)).toNat * 3)) = some (.int .i64 ((rd_T86 l0 (ji12)).f0)) := ((HB.out.cell (World.block_lt_of_cell? w _ hw1383_0)).trans hw1383_0)
             have hq4_ : w28.cell? ⟨(ad1379.add (((ji12)).toNat * 3)).block, (ad1379.add (((ji12)).toNat * 3)).off + 1, none⟩ = some (.int .i64 ((rd_T86 l0 (ji12)).f1)) := ((HB.out.cell (World.block_lt_of_cell? w _ hw1383_1)).trans hw1383_1)
             have hq5_ : w28.cell? ⟨(ad1379.add (((ji12)).toNat * 3)).block, (ad1379.add (((ji12)).toNat * 3)).off + 2, none⟩ = some (.bool ((rd_T86 l0 (ji12)).f2)) := ((HB.out.cell (World.block_lt_of_cell? w _ hw1383_2)).trans hw1383_2)
             have hq6_ : w28.cell? (ad1379.add (((ji12)).toNat * 3)) = some (.int .i64 ((rd_T86 l0 (ji12)).f0)) := ((HB.out.cell (World.block_lt_of_cell? w _ hw1384_0)).trans hw1384_0)
             have hq7_ : w28.cell? ⟨(ad1379.add (((ji12)).toNat * 3)).block, (ad1379.add (((ji12)).toNat * 3)).off + 1, none⟩ = some (.int .i64 ((rd_T86 l0 (ji12)).f1)) := ((HB.out.cell (World.block_lt_of_cell? w _ hw1384_1)).trans hw1384_1)
             have hq8_ : w28.cell? ⟨(ad1379.add (((ji12)).toNat * 3)).block, (ad1379.add (((ji12)).toNat * 3)).off + 2, none⟩ = some (.bool ((rd_T86 l0 (ji12)).f2)) := ((HB.out.cell (World.block_lt_of_cell? w _ hw1384_2)).trans hw1384_2)
             go_quiet ((first | (go_at_call 86; apply Calls.quiet_of; ((with_reducible refine (impl_InRange.calls ((rd_T86 l0 x14_1).f1) 1 96 true _ A7.out).mono ?_); exact fun _ _ h_ => ⟨h_.1, h_.2.out⟩)) | (go_at_call 86; apply Calls.quiet_of; ((with_reducible refine (impl_InRange.calls ((rd_T86 l0 x14_1).f0) 0 3000 true _ A9.out).mono ?_); exact fun _ _ h_ => ⟨h_.1, h_.2.out⟩))))
             have nBK1380_ := Aside0.mk (blk_drewN (w := w28) BK1380.out nq)
             have nHB_ := Aside0.mk (pw_below_drewN (W := w28) ⟨HB.out.os, HB.out.tape, HB.out.output, HB.out.size, HB.out.block⟩ nq)
             have nhx1383_0_ : (w28.drewN nq).cell? _ = _ := hx1383_0
             have nhx1383_1_ : (w28.drewN nq).cell? _ = _ := hx1383_1
             have nhx1383_2_ : (w28.drewN nq).cell? _ = _ := hx1383_2
             have nhx1384_0_ : (w28.drewN nq).cell? _ = _ := hx1384_0
             have nhx1384_1_ : (w28.drewN nq).cell? _ = _ := hx1384_1
             have nhx1384_2_ : (w28.drewN nq).cell? _ = _ := hx1384_2
             clear BK1380 HB hx1383_0 hx1383_1 hx1383_2 hx1384_0 hx1384_1 hx1384_2 hq0_ hq1_ hq2_ hq3_ hq4_ hq5_ hq6_ hq7_ hq8_
             have BK1380 := nBK1380_
             have HB := nHB_
             have hx1383_0 := nhx1383_0_
             have hx1383_1 := nhx1383_1_
             have hx1383_2 := nhx1383_2_
             have hx1384_0 := nhx1384_0_
             have hx1384_1 := nhx1384_1_
             have hx1384_2 := nhx1384_2_
             clear nBK1380_ nHB_ nhx1383_0_ nhx1383_1_ nhx1383_2_ nhx1384_0_ nhx1384_1_ nhx1384_2_
             generalize w28.drewN nq = w29 at BK1380 HB hx1383_0 hx1383_1 hx1383_2 hx1384_0 hx1384_1 hx1384_2 ⊢
             try go_wp2
             go_ret3
             exact ⟨by first | rfl | (simp [errW_none, errW_some] <;> rfl) | (simp only [← hji12]; first | rfl | (simp [errW_none, errW_some] <;> rfl)) | (simp [*, errW_none, errW_some] <;> rfl), by repeat (first | (with_reducible first | exact HB.out | apply below_alloc | apply pw_below_drewN | apply below_drew1 | refine below_set ?_ GE1380.out) | exact HB.out)⟩
           ·
            rw [if_neg c14] at H
            exact absurd H (by simp)
          ·
           rw [if_neg c13] at H
           exact absurd H (by simp)
         ·
          rw [if_neg c11] at H
          have c11b0 : decide (0 < x14_1) = false := decide_eq_false c11
          clear c11
          by_cases c30 : (((rd_T86 l0 x14_1).f2) != (decide (x14_1 < (wrap64 ((l0.length : Int) - 1))))) = true
          ·
           rw [if_pos c30] at H
           have c30b0 : (((rd_T86 l0 x14_1).f2) != (decide (x14_1 < (wrap64 ((l0.length : Int) - 1))))) = true := c30
           (try (have c30b1 : decide (((rd_T86 l0 x14_1).f2) = (decide (x14_1 < (wrap64 ((l0.length : Int) - 1))))) = false := by simpa using c30))
           (try (have c30b2 : (((rd_T86 l0 x14_1).f2) == (decide (x14_1 < (wrap64 ((l0.length : Int) - 1))))) = false := by simpa using c30))
           (try (have c30b3 : ¬ (((rd_T86 l0 x14_1).f2) = (decide (x14_1 < (wrap64 ((l0.length : Int) - 1))))) := by simpa using c30))
           clear c30
           simp only [Option.some.injEq, Prod.mk.injEq] at H
           obtain ⟨rfl, rfl, rfl⟩ := H
           have p1379 : 0 ≤ (x14_1 : Int) := of_decide_eq_true (by first | (with_reducible assumption) | assumption)
           have q1379 : x14_1 < (l0.length : Int) := of_decide_eq_true (by first | (with_reducible assumption) | assumption)
           obtain ⟨ad1379, e1379, hx1379_0, hx1379_1, hx1379_2⟩ := at_T86 HR0.out x14_1 p1379 q1379
           cases e1379
           replace hx1379_0 := (HB.out.cell (World.block_lt_of_cell? w _ hx1379_0)).trans hx1379_0
           replace hx1379_1 := (HB.out.cell (World.block_lt_of_cell? w _ hx1379_1)).trans hx1379_1
           replace hx1379_2 := (HB.out.cell (World.block_lt_of_cell? w _ hx1379_2)).trans hx1379_2
           replace p1379 := eq_true p1379
           replace q1379 := eq_true q1379
           try go_wp2_with (first | ((with_reducible refine gate_dst (N := 7) rfl ?_); (try (refine gate_guard (by rfl) ?_; dsimp only)); refine box_event ?hg (N := 7) ?hd (cs := #[.int .i64 0, .int .i64 0, .bool false]) (t := 86) ?hr ?_; (case hd => rfl); (case hg => rfl); (case hr => first | (go_simp; done) | (go_simp; rfl)); intro gb1380 hg w31 hbox hb; have n0_ := Aside0.mk (below_step (by repeat (first | (with_reducible first | exact HB.out | apply below_alloc | apply pw_below_drewN | apply below_drew1) | exact HB.out)) hb); have n1_ := Aside0.mk (hbox); have n2_ := Aside0.mk ((by rw [hg]; exact (below_size (by repeat (first | (with_reducible first | exact HB.out | apply below_alloc | apply pw_below_drewN | apply below_drew1) | exact HB.out))) : w.heap.size ≤ gb1380)); have n3_ := Aside0.mk ((by rw [hg]; exact (below_size (by repeat (first | (with_reducible first | exact HB.out | apply below_alloc | apply pw_below_drewN | apply below_drew1) | exact HB.out))) : w.heap.size ≤ gb1380)); clear HB; have HB := n0_; have BK1380 := n1_; have GW1380 := n2_; have GE1380 := n3_; clear n0_ n1_ n2_ n3_; clear hb hbox hg; have hcz32_0 : w31.cell? ⟨gb1380, 0, none⟩ = some (.int .i64 0) := (blk_cell BK1380.out 0).trans rfl; have hcz32_1 : w31.cell? ⟨gb1380, 1, none⟩ = some (.int .i64 0) := (blk_cell BK1380.out 1).trans rfl; have hcz32_2 : w31.cell? ⟨gb1380, 2, none⟩ = some (.bool false) := (blk_cell BK1380.out 2).trans rfl; have hfz32_0 := blk_frozen BK1380.out 0; have hfz32_1 := blk_frozen BK1380.out 1; have hfz32_2 := blk_frozen BK1380.out 2))
           have n0_ : Aside0 ((((w31.setCell ⟨gb1380, 0, none⟩ (.int .i64 ((rd_T86 l0 x14_1).f0))).setCell ⟨gb1380, 1, none⟩ (.int .i64 ((rd_T86 l0 x14_1).f1))).setCell ⟨gb1380, 2, none⟩ (.bool ((rd_T86 l0 x14_1).f2))).heap[gb1380]? = some (.cells #[.int .i64 ((rd_T86 l0 x14_1).f0), .int .i64 ((rd_T86 l0 x14_1).f1), .bool ((rd_T86 l0 x14_1).f2)] 86 (0, 0))) := ⟨by (with_reducible repeat (first | refine blk_drewN ?_ _ | refine blk_drew ?_ | refine blk_alloc ?_ _)); refine blk_put (cs := #[.int .i64 ((rd_T86 l0 x14_1).f0), .int .i64 ((rd_T86 l0 x14_1).f1), .bool false]) ?_ 2 _ rfl; (with_reducible repeat (first | refine blk_drewN ?_ _ | refine blk_drew ?_ | refine blk_alloc ?_ _)); refine blk_put (cs := #[.int .i64 ((rd_T86 l0 x14_1).f0), .int .i64 0, .bool false]) ?_ 1 _ rfl; (with_reducible repeat (first | refine blk_drewN ?_ _ | refine blk_drew ?_ | refine blk_alloc ?_ _)); refine blk_put (cs := #[.int .i64 0, .int .i64 0, .bool false]) ?_ 0 _ rfl; (with_reducible repeat (first | refine blk_drewN ?_ _ | refine blk_drew ?_ | refine blk_alloc ?_ _)); exact BK1380.out⟩
           have n1_ : Aside0 (Below w.heap.size w (((w31.setCell ⟨gb1380, 0, none⟩ (.int .i64 ((rd_T86 l0 x14_1).f0))).setCell ⟨gb1380, 1, none⟩ (.int .i64 ((rd_T86 l0 x14_1).f1))).setCell ⟨gb1380, 2, none⟩ (.bool ((rd_T86 l0 x14_1).f2)))) := ⟨by repeat (first | (with_reducible first | exact HB.out | apply below_alloc | apply pw_below_drewN | apply below_drew1 | refine below_set ?_ GE1380.out) | exact HB.out)⟩
           (try clear BK1380)
           (try clear HB)
           generalize (((w31.setCell ⟨gb1380, 0, none⟩ (.int .i64 ((rd_T86 l0 x14_1).f0))).setCell ⟨gb1380, 1, none⟩ (.int .i64 ((rd_T86 l0 x14_1).f1))).setCell ⟨gb1380, 2, none⟩ (.bool ((rd_T86 l0 x14_1).f2))) = w33 at n0_ n1_ ⊢
           have BK1380 := n0_
           have HB := n1_
           clear n0_ n1_
           have n0_ := Aside0.mk (blk_drew BK1380.out)
           have n1_ := Aside0.mk (below_drew1 HB.out)
           clear BK1380
           clear HB
           have BK1380 := n0_
           have HB := n1_
           clear n0_ n1_
           have hq0_ : w33.cell? ⟨gb1380, 0, none⟩ = some (.int .i64 ((rd_T86 l0 x14_1).f0)) := (blk_cell BK1380.out 0).trans rfl
           have hq1_ : w33.cell? ⟨gb1380, 1, none⟩ = some (.int .i64 ((rd_T86 l0 x14_1).f1)) := (blk_cell BK1380.out 1).trans rfl
           have hq2_ : w33.cell? ⟨gb1380, 2, none⟩ = some (.bool ((rd_T86 l0 x14_1).f2)) := (blk_cell BK1380.out 2).trans rfl
           go_quiet ((first | (go_at_call 86; apply Calls.quiet_of; ((with_reducible refine (impl_InRange.calls ((rd_T86 l0 x14_1).f1) 1 96 true _ A7.out).mono ?_); exact fun _ _ h_ => ⟨h_.1, h_.2.out⟩)) | (go_at_call 86; apply Calls.quiet_of; ((with_reducible refine (impl_InRange.calls ((rd_T86 l0 x14_1).f0) 0 3000 true _ A9.out).mono ?_); exact fun _ _ h_ => ⟨h_.1, h_.2.out⟩))))
           have nBK1380_ := Aside0.mk (blk_drewN (w := w33) BK1380.out nq)
           have nHB_ := Aside0.mk (pw_below_drewN (W := w33) ⟨HB.out.os, HB.out.tape, HB.out.output, HB.out.size, HB.out.block⟩ nq)
           clear BK1380 HB hq0_ hq1_ hq2_
           have BK1380 := nBK1380_
           have HB := nHB_
           clear nBK1380_ nHB_
           generalize w33.drewN nq = w34 at BK1380 HB ⊢
           try go_wp2
           go_ret3
           exact ⟨by first | rfl | (simp [errW_none, errW_some] <;> rfl) | (simp [*, errW_none, errW_some] <;> rfl), by repeat (first | (with_reducible first | exact HB.out | apply below_alloc | apply pw_below_drewN | apply below_drew1 | refine below_set ?_ GE1380.out) | exact HB.out)⟩
          ·
           rw [if_neg c30] at H
           have c30b0 : (((rd_T86 l0 x14_1).f2) != (decide (x14_1 < (wrap64 ((l0.length : Int) - 1))))) = false := by simpa using c30
           (try (have c30b1 : decide (((rd_T86 l0 x14_1).f2) = (decide (x14_1 < (wrap64 ((l0.length : Int) - 1))))) = true := by simpa using c30))
           (try (have c30b2 : (((rd_T86 l0 x14_1).f2) == (decide (x14_1 < (wrap64 ((l0.length : Int) - 1))))) = true := by simpa using c30))
           clear c30
           have H' := Aside0.mk H
           clear H
           have p1379 : 0 ≤ (x14_1 : Int) := of_decide_eq_true (by first | (with_reducible assumption) | assumption)
           have q1379 : x14_1 < (l0.length : Int) := of_decide_eq_true (by first | (with_reducible assumption) | assumption)
           obtain ⟨ad1379, e1379, hx1379_0, hx1379_1, hx1379_2⟩ := at_T86 HR0.out x14_1 p1379 q1379
           cases e1379
           replace hx1379_0 := (HB.out.cell (World.block_lt_of_cell? w _ hx1379_0)).trans hx1379_0
           replace hx1379_1 := (HB.out.cell (World.block_lt_of_cell? w _ hx1379_1)).trans hx1379_1
           replace hx1379_2 := (HB.out.cell (World.block_lt_of_cell? w _ hx1379_2)).trans hx1379_2
           replace p1379 := eq_true p1379
           replace q1379 := eq_true q1379
           try go_wp2_with (first | ((with_reducible refine gate_dst (N := 7) rfl ?_); (try (refine gate_guard (by rfl) ?_; dsimp only)); refine box_event ?hg (N := 7) ?hd (cs := #[.int .i64 0, .int .i64 0, .bool false]) (t := 86) ?hr ?_; (case hd => rfl); (case hg => rfl); (case hr => first | (go_simp; done) | (go_simp; rfl)); intro gb1380 hg w35 hbox hb; have n0_ := Aside0.mk (below_step (by repeat (first | (with_reducible first | exact HB.out | apply below_alloc | apply pw_below_drewN | apply below_drew1) | exact HB.out)) hb); have n1_ := Aside0.mk (hbox); have n2_ := Aside0.mk ((by rw [hg]; exact (below_size (by repeat (first | (with_reducible first | exact HB.out | apply below_alloc | apply pw_below_drewN | apply below_drew1) | exact HB.out))) : w.heap.size ≤ gb1380)); have n3_ := Aside0.mk ((by rw [hg]; exact (below_size (by repeat (first | (with_reducible first | exact HB.out | apply below_alloc | apply pw_below_drewN | apply below_drew1) | exact HB.out))) : w.heap.size ≤ gb1380)); clear HB; have HB := n0_; have BK1380 := n1_; have GW1380 := n2_; have GE1380 := n3_; clear n0_ n1_ n2_ n3_; clear hb hbox hg; have hcz36_0 : w35.cell? ⟨gb1380, 0, none⟩ = some (.int .i64 0) := (blk_cell BK1380.out 0).trans rfl; have hcz36_1 : w35.cell? ⟨gb1380, 1, none⟩ = some (.int .i64 0) := (blk_cell BK1380.out 1).trans rfl; have hcz36_2 : w35.cell? ⟨gb1380, 2, none⟩ = some (.bool false) := (blk_cell BK1380.out 2).trans rfl; have hfz36_0 := blk_frozen BK1380.out 0; have hfz36_1 := blk_frozen BK1380.out 1; have hfz36_2 := blk_frozen BK1380.out 2))
           have n0_ : Aside0 ((((w35.setCell ⟨gb1380, 0, none⟩ (.int .i64 ((rd_T86 l0 x14_1).f0))).setCell ⟨gb1380, 1, none⟩ (.int .i64 ((rd_T86 l0 x14_1).f1))).setCell ⟨gb1380, 2, none⟩ (.bool ((rd_T86 l0 x14_1).f2))).heap[gb1380]? = some (.cells #[.int .i64 ((rd_T86 l0 x14_1).f0), .int .i64 ((rd_T86 l0 x14_1).f1), .bool ((rd_T86 l0 x14_1).f2)] 86 (0, 0))) := ⟨by (with_reducible repeat (first | refine blk_drewN ?_ _ | refine blk_drew ?_ | refine blk_alloc ?_ _)); refine blk_put (cs := #[.int .i64 ((rd_T86 l0 x14_1).f0), .int .i64 ((rd_T86 l0 x14_1).f1), .bool false]) ?_ 2 _ rfl; (with_reducible repeat (first | refine blk_drewN ?_ _ | refine blk_drew ?_ | refine blk_alloc ?_ _)); refine blk_put (cs := #[.int .i64 ((rd_T86 l0 x14_1).f0), .int .i64 0, .bool false]) ?_ 1 _ rfl; (with_reducible repeat (first | refine blk_drewN ?_ _ | refine blk_drew ?_ | refine blk_alloc ?_ _)); refine blk_put (cs := #[.int .i64 0, .int .i64 0, .bool false]) ?_ 0 _ rfl; (with_reducible repeat (first | refine blk_drewN ?_ _ | refine blk_drew ?_ | refine blk_alloc ?_ _)); exact BK1380.out⟩
           have n1_ : Aside0 (Below w.heap.size w (((w35.setCell ⟨gb1380, 0, none⟩ (.int .i64 ((rd_T86 l0 x14_1).f0))).setCell ⟨gb1380, 1, none⟩ (.int .i64 ((rd_T86 l0 x14_1).f1))).setCell ⟨gb1380, 2, none⟩ (.bool ((rd_T86 l0 x14_1).f2)))) := ⟨by repeat (first | (with_reducible first | exact HB.out | apply below_alloc | apply pw_below_drewN | apply below_drew1 | refine below_set ?_ GE1380.out) | exact HB.out)⟩
           (try clear BK1380)
           (try clear HB)
           generalize (((w35.setCell ⟨gb1380, 0, none⟩ (.int .i64 ((rd_T86 l0 x14_1).f0))).setCell ⟨gb1380, 1, none⟩ (.int .i64 ((rd_T86 l0 x14_1).f1))).setCell ⟨gb1380, 2, none⟩ (.bool ((rd_T86 l0 x14_1).f2))) = w37 at n0_ n1_ ⊢
           have BK1380 := n0_
           have HB := n1_
           clear n0_ n1_
           have n0_ := Aside0.mk (blk_drew BK1380.out)
           have n1_ := Aside0.mk (below_drew1 HB.out)
           clear BK1380
           clear HB
           have BK1380 := n0_
           have HB := n1_
           clear n0_ n1_
           have hq0_ : w37.cell? ⟨gb1380, 0, none⟩ = some (.int .i64 ((rd_T86 l0 x14_1).f0)) := (blk_cell BK1380.out 0).trans rfl
           have hq1_ : w37.cell? ⟨gb1380, 1, none⟩ = some (.int .i64 ((rd_T86 l0 x14_1).f1)) := (blk_cell BK1380.out 1).trans rfl
           have hq2_ : w37.cell? ⟨gb1380, 2, none⟩ = some (.bool ((rd_T86 l0 x14_1).f2)) := (blk_cell BK1380.out 2).trans rfl
           go_quiet ((first | (go_at_call 86; apply Calls.quiet_of; ((with_reducible refine (impl_InRange.calls ((rd_T86 l0 x14_1).f1) 1 96 true _ A7.out).mono ?_); exact fun _ _ h_ => ⟨h_.1, h_.2.out⟩)) | (go_at_call 86; apply Calls.quiet_of; ((with_reducible refine (impl_InRange.calls ((rd_T86 l0 x14_1).f0) 0 3000 true _ A9.out).mono ?_); exact fun _ _ h_ => ⟨h_.1, h_.2.out⟩))))
           have nBK1380_ := Aside0.mk (blk_drewN (w := w37) BK1380.out nq)
           have nHB_ := Aside0.mk (pw_below_drewN (W := w37) ⟨HB.out.os, HB.out.tape, HB.out.output, HB.out.size, HB.out.block⟩ nq)
           clear BK1380 HB hq0_ hq1_ hq2_
           have BK1380 := nBK1380_
           have HB := nHB_
           clear nBK1380_ nHB_
           generalize w37.drewN nq = w38 at BK1380 HB ⊢
           have hcz39_0 : w38.cell? ⟨gb1380, 0, none⟩ = some (.int .i64 ((rd_T86 l0 x14_1).f0)) := (blk_cell BK1380.out 0).trans rfl
           have hcz39_1 : w38.cell? ⟨gb1380, 1, none⟩ = some (.int .i64 ((rd_T86 l0 x14_1).f1)) := (blk_cell BK1380.out 1).trans rfl
           have hcz39_2 : w38.cell? ⟨gb1380, 2, none⟩ = some (.bool ((rd_T86 l0 x14_1).f2)) := (blk_cell BK1380.out 2).trans rfl
           have hfz39_0 := blk_frozen BK1380.out 0
           have hfz39_1 := blk_frozen BK1380.out 1
           have hfz39_2 := blk_frozen BK1380.out 2
           try go_wp2
           go_roundg k1
           case measure => have := HK1.out; omega
           case rel => exact ⟨(wrap64 (x5_1 + ((rd_T86 l0 x14_1).f1))), (wrap64 (x14_1 + 1)), (by first | rfl | (simp; done) | (simp [*]; done)), (by first | rfl | (simp; done) | (simp [*]; done)), H', ⟨by have := HK1.out; omega⟩, ⟨by repeat (first | (with_reducible first | exact HB.out | apply below_alloc | apply pw_below_drewN | apply below_drew1 | refine below_set ?_ GE1380.out) | exact HB.out)⟩⟩
        ·
         replace c10 := Bool.eq_false_iff.mpr c10
         subst c10
         rw [if_neg (show ¬ (false = true) by decide)] at H
         simp only [Option.some.injEq, Prod.mk.injEq] at H
         obtain ⟨rfl, rfl, rfl⟩ := H
         have p1379 : 0 ≤ (x14_1 : Int) := of_decide_eq_true (by first | (with_reducible assumption) | assumption)
         have q1379 : x14_1 < (l0.length : Int) := of_decide_eq_true (by first | (with_reducible assumption) | assumption)
         obtain ⟨ad1379, e1379, hx1379_0, hx1379_1, hx1379_2⟩ := at_T86 HR0.out x14_1 p1379 q1379
         cases e1379
         replace hx1379_0 := (HB.out.cell (World.block_lt_of_cell? w _ hx1379_0)).trans hx1379_0
         replace hx1379_1 := (HB.out.cell (World.block_lt_of_cell? w _ hx1379_1)).trans hx1379_1
         replace hx1379_2 := (HB.out.cell (World.block_lt_of_cell? w _ hx1379_2)).trans hx1379_2
         replace p1379 := eq_true p1379
         replace q1379 := eq_true q1379
         try go_wp2_with (first | ((with_reducible refine gate_dst (N := 7) rfl ?_); (try (refine gate_guard (by rfl) ?_; dsimp only)); refine box_event ?hg (N := 7) ?hd (cs := #[.int .i64 0, .int .i64 0, .bool false]) (t := 86) ?hr ?_; (case hd => rfl); (case hg => rfl); (case hr => first | (go_simp; done) | (go_simp; rfl)); intro gb1380 hg w40 hbox hb; have n0_ := Aside0.mk (below_step (by repeat (first | (with_reducible first | exact HB.out | apply below_alloc | apply pw_below_drewN | apply below_drew1) | exact HB.out)) hb); have n1_ := Aside0.mk (hbox); have n2_ := Aside0.mk ((by rw [hg]; exact (below_size (by repeat (first | (with_reducible first | exact HB.out | apply below_alloc | apply pw_below_drewN | apply below_drew1) | exact HB.out))) : w.heap.size ≤ gb1380)); have n3_ := Aside0.mk ((by rw [hg]; exact (below_size (by repeat (first | (with_reducible first | exact HB.out | apply below_alloc | apply pw_below_drewN | apply below_drew1) | exact HB.out))) : w.heap.size ≤ gb1380)); clear HB; have HB := n0_; have BK1380 := n1_; have GW1380 := n2_; have GE1380 := n3_; clear n0_ n1_ n2_ n3_; clear hb hbox hg; have hcz41_0 : w40.cell? ⟨gb1380, 0, none⟩ = some (.int .i64 0) := (blk_cell BK1380.out 0).trans rfl; have hcz41_1 : w40.cell? ⟨gb1380, 1, none⟩ = some (.int .i64 0) := (blk_cell BK1380.out 1).trans rfl; have hcz41_2 : w40.cell? ⟨gb1380, 2, none⟩ = some (.bool false) := (blk_cell BK1380.out 2).trans rfl; have hfz41_0 := blk_frozen BK1380.out 0; have hfz41_1 := blk_frozen BK1380.out 1; have hfz41_2 := blk_frozen BK1380.out 2))
         have n0_ : Aside0 ((((w40.setCell ⟨gb1380, 0, none⟩ (.int .i64 ((rd_T86 l0 x14_1).f0))).setCell ⟨gb1380, 1, none⟩ (.int .i64 ((rd_T86 l0 x14_1).f1))).setCell ⟨gb1380, 2, none⟩ (.bool ((rd_T86 l0 x14_1).f2))).heap[gb1380]? = some (.cells #[.int .i64 ((rd_T86 l0 x14_1).f0), .int .i64 ((rd_T86 l0 x14_1).f1), .bool ((rd_T86 l0 x14_1).f2)] 86 (0, 0))) := ⟨by (with_reducible repeat (first | refine blk_drewN ?_ _ | refine blk_drew ?_ | refine blk_alloc ?_ _)); refine blk_put (cs := #[.int .i64 ((rd_T86 l0 x14_1).f0), .int .i64 ((rd_T86 l0 x14_1).f1), .bool false]) ?_ 2 _ rfl; (with_reducible repeat (first | refine blk_drewN ?_ _ | refine blk_drew ?_ | refine blk_alloc ?_ _)); refine blk_put (cs := #[.int .i64 ((rd_T86 l0 x14_1).f0), .int .i64 0, .bool false]) ?_ 1 _ rfl; (with_reducible repeat (first | refine blk_drewN ?_ _ | refine blk_drew ?_ | refine blk_alloc ?_ _)); refine blk_put (cs := #[.int .i64 0, .int .i64 0, .bool false]) ?_ 0 _ rfl; (with_reducible repeat (first | refine blk_drewN ?_ _ | refine blk_drew ?_ | refine blk_alloc ?_ _)); exact BK1380.out⟩
         have n1_ : Aside0 (Below w.heap.size w (((w40.setCell ⟨gb1380, 0, none⟩ (.int .i64 ((rd_T86 l0 x14_1).f0))).setCell ⟨gb1380, 1, none⟩ (.int .i64 ((rd_T86 l0 x14_1).f1))).setCell ⟨gb1380, 2, none⟩ (.bool ((rd_T86 l0 x14_1).f2)))) := ⟨by repeat (first | (with_reducible first | exact HB.out | apply below_alloc | apply pw_below_drewN | apply below_drew1 | refine below_set ?_ GE1380.out) | exact HB.out)⟩
         (try clear BK1380)
         (try clear HB)
         generalize (((w40.setCell ⟨gb1380, 0, none⟩ (.int .i64 ((rd_T86 l0 x14_1).f0))).setCell ⟨gb1380, 1, none⟩ (.int .i64 ((rd_T86 l0 x14_1).f1))).setCell ⟨gb1380, 2, none⟩ (.bool ((rd_T86 l0 x14_1).f2))) = w42 at n0_ n1_ ⊢
         have BK1380 := n0_
         have HB := n1_
         clear n0_ n1_
         have n0_ := Aside0.mk (blk_drew BK1380.out)
         have n1_ := Aside0.mk (below_drew1 HB.out)
         clear BK1380
         clear HB
         have BK1380 := n0_
         have HB := n1_
         clear n0_ n1_
         have hq0_ : w42.cell? ⟨gb1380, 0, none⟩ = some (.int .i64 ((rd_T86 l0 x14_1).f0)) := (blk_cell BK1380.out 0).trans rfl
         have hq1_ : w42.cell? ⟨gb1380, 1, none⟩ = some (.int .i64 ((rd_T86 l0 x14_1).f1)) := (blk_cell BK1380.out 1).trans rfl
         have hq2_ : w42.cell? ⟨gb1380, 2, none⟩ = some (.bool ((rd_T86 l0 x14_1).f2)) := (blk_cell BK1380.out 2).trans rfl
         go_quiet ((first | (go_at_call 86; apply Calls.quiet_of; ((with_reducible refine (impl_InRange.calls ((rd_T86 l0 x14_1).f1) 1 96 true _ A7.out).mono ?_); exact fun _ _ h_ => ⟨h_.1, h_.2.out⟩)) | (go_at_call 86; apply Calls.quiet_of; ((with_reducible refine (impl_InRange.calls ((rd_T86 l0 x14_1).f0) 0 3000 false _ A9.out).mono ?_); exact fun _ _ h_ => ⟨h_.1, h_.2.out⟩))))
         have nBK1380_ := Aside0.mk (blk_drewN (w := w42) BK1380.out nq)
         have nHB_ := Aside0.mk (pw_below_drewN (W := w42) ⟨HB.out.os, HB.out.tape, HB.out.output, HB.out.size, HB.out.block⟩ nq)
         clear BK1380 HB hq0_ hq1_ hq2_
         have BK1380 := nBK1380_
         have HB := nHB_
         clear nBK1380_ nHB_
         generalize w42.drewN nq = w43 at BK1380 HB ⊢
         try go_wp2
         go_ret3
         exact ⟨by first | rfl | (simp [errW_none, errW_some] <;> rfl) | (simp [*, errW_none, errW_some] <;> rfl), by repeat (first | (with_reducible first | exact HB.out | apply below_alloc | apply pw_below_drewN | apply below_drew1 | refine below_set ?_ GE1380.out) | exact HB.out)⟩
       ·
        replace c8 := Bool.eq_false_iff.mpr c8
        subst c8
        rw [if_neg (show ¬ (false = true) by decide)] at H
        simp only [Option.some.injEq, Prod.mk.injEq] at H
        obtain ⟨rfl, rfl, rfl⟩ := H
        have p1379 : 0 ≤ (x14_1 : Int) := of_decide_eq_true (by first | (with_reducible assumption) | assumption)
        have q1379 : x14_1 < (l0.length : Int) := of_decide_eq_true (by first | (with_reducible assumption) | assumption)
        obtain ⟨ad1379, e1379, hx1379_0, hx1379_1, hx1379_2⟩ := at_T86 HR0.out x14_1 p1379 q1379
        cases e1379
        replace hx1379_0 := (HB.out.cell (World.block_lt_of_cell? w _ hx1379_0)).trans hx1379_0
        replace hx1379_1 := (HB.out.cell (World.block_lt_of_cell? w _ hx1379_1)).trans hx1379_1
        replace hx1379_2 := (HB.out.cell (World.block_lt_of_cell? w _ hx1379_2)).trans hx1379_2
        replace p1379 := eq_true p1379
        replace q1379 := eq_true q1379
        try go_wp2_with (first | ((with_reducible refine gate_dst (N := 7) rfl ?_); (try (refine gate_guard (by rfl) ?_; dsimp only)); refine box_event ?hg (N := 7) ?hd (cs := #[.int .i64 0, .int .i64 0, .bool false]) (t := 86) ?hr ?_; (case hd => rfl); (case hg => rfl); (case hr => first | (go_simp; done) | (go_simp; rfl)); intro gb1380 hg w44 hbox hb; have n0_ := Aside0.mk (below_step (by repeat (first | (with_reducible first | exact HB.out | apply below_alloc | apply pw_below_drewN | apply below_drew1) | exact HB.out)) hb); have n1_ := Aside0.mk (hbox); have n2_ := Aside0.mk ((by rw [hg]; exact (below_size (by repeat (first | (with_reducible first | exact HB.out | apply below_alloc | apply pw_below_drewN | apply below_drew1) | exact HB.out))) : w.heap.size ≤ gb1380)); have n3_ := Aside0.mk ((by rw [hg]; exact (below_size (by repeat (first | (with_reducible first | exact HB.out | apply below_alloc | apply pw_below_drewN | apply below_drew1) | exact HB.out))) : w.heap.size ≤ gb1380)); clear HB; have HB := n0_; have BK1380 := n1_; have GW1380 := n2_; have GE1380 := n3_; clear n0_ n1_ n2_ n3_; clear hb hbox hg; have hcz45_0 : w44.cell? ⟨gb1380, 0, none⟩ = some (.int .i64 0) := (blk_cell BK1380.out 0).trans rfl; have hcz45_1 : w44.cell? ⟨gb1380, 1, none⟩ = some (.int .i64 0) := (blk_cell BK1380.out 1).trans rfl; have hcz45_2 : w44.cell? ⟨gb1380, 2, none⟩ = some (.bool false) := (blk_cell BK1380.out 2).trans rfl; have hfz45_0 := blk_frozen BK1380.out 0; have hfz45_1 := blk_frozen BK1380.out 1; have hfz45_2 := blk_frozen BK1380.out 2))
        have n0_ : Aside0 ((((w44.setCell ⟨gb1380, 0, none⟩ (.int .i64 ((rd_T86 l0 x14_1).f0))).setCell ⟨gb1380, 1, none⟩ (.int .i64 ((rd_T86 l0 x14_1).f1))).setCell ⟨gb1380, 2, none⟩ (.bool ((rd_T86 l0 x14_1).f2))).heap[gb1380]? = some (.cells #[.int .i64 ((rd_T86 l0 x14_1).f0), .int .i64 ((rd_T86 l0 x14_1).f1), .bool ((rd_T86 l0 x14_1).f2)] 86 (0, 0))) := ⟨by (with_reducible repeat (first | refine blk_drewN ?_ _ | refine blk_drew ?_ | refine blk_alloc ?_ _)); refine blk_put (cs := #[.int .i64 ((rd_T86 l0 x14_1).f0), .int .i64 ((rd_T86 l0 x14_1).f1), .bool false]) ?_ 2 _ rfl; (with_reducible repeat (first | refine blk_drewN ?_ _ | refine blk_drew ?_ | refine blk_alloc ?_ _)); refine blk_put (cs := #[.int .i64 ((rd_T86 l0 x14_1).f0), .int .i64 0, .bool false]) ?_ 1 _ rfl; (with_reducible repeat (first | refine blk_drewN ?_ _ | refine blk_drew ?_ | refine blk_alloc ?_ _)); refine blk_put (cs := #[.int .i64 0, .int .i64 0, .bool false]) ?_ 0 _ rfl; (with_reducible repeat (first | refine blk_drewN ?_ _ | refine blk_drew ?_ | refine blk_alloc ?_ _)); exact BK1380.out⟩
        have n1_ : Aside0 (Below w.heap.size w (((w44.setCell ⟨gb1380, 0, none⟩ (.int .i64 ((rd_T86 l0 x14_1).f0))).setCell ⟨gb1380, 1, none⟩ (.int .i64 ((rd_T86 l0 x14_1).f1))).setCell ⟨gb1380, 2, none⟩ (.bool ((rd_T86 l0 x14_1).f2)))) := ⟨by repeat (first | (with_reducible first | exact HB.out | apply below_alloc | apply pw_below_drewN | apply below_drew1 | refine below_set ?_ GE1380.out) | exact HB.out)⟩
        (try clear BK1380)
        (try clear HB)
        generalize (((w44.setCell ⟨gb1380, 0, none⟩ (.int .i64 ((rd_T86 l0 x14_1).f0))).setCell ⟨gb1380, 1, none⟩ (.int .i64 ((rd_T86 l0 x14_1).f1))).setCell ⟨gb1380, 2, none⟩ (.bool ((rd_T86 l0 x14_1).f2))) = w46 at n0_ n1_ ⊢
        have BK1380 := n0_
        have HB := n1_
        clear n0_ n1_
        have n0_ := Aside0.mk (blk_drew BK1380.out)
        have n1_ := Aside0.mk (below_drew1 HB.out)
        clear BK1380
        clear HB
        have BK1380 := n0_
        have HB := n1_
        clear n0_ n1_
        have hq0_ : w46.cell? ⟨gb1380, 0, none⟩ = some (.int .i64 ((rd_T86 l0 x14_1).f0)) := (blk_cell BK1380.out 0).trans rfl
        have hq1_ : w46.cell? ⟨gb1380, 1, none⟩ = some (.int .i64 ((rd_T86 l0 x14_1).f1)) := (blk_cell BK1380.out 1).trans rfl
        have hq2_ : w46.cell? ⟨gb1380, 2, none⟩ = some (.bool ((rd_T86 l0 x14_1).f2)) := (blk_cell BK1380.out 2).trans rfl
        go_quiet ((first | (go_at_call 86; apply Calls.quiet_of; ((with_reducible refine (impl_InRange.calls ((rd_T86 l0 x14_1).f1) 1 96 false _ A7.out).mono ?_); exact fun _ _ h_ => ⟨h_.1, h_.2.out⟩))))
        have nBK1380_ := Aside0.mk (blk_drewN (w := w46) BK1380.out nq)
        have nHB_ := Aside0.mk (pw_below_drewN (W := w46) ⟨HB.out.os, HB.out.tape, HB.out.output, HB.out.size, HB.out.block⟩ nq)
        clear BK1380 HB hq0_ hq1_ hq2_
        have BK1380 := nBK1380_
        have HB := nHB_
        clear nBK1380_ nHB_
        generalize w46.drewN nq = w47 at BK1380 HB ⊢
        try go_wp2
        go_ret3
        exact ⟨by first | rfl | (simp [errW_none, errW_some] <;> rfl) | (simp [*, errW_none, errW_some] <;> rfl), by repeat (first | (with_reducible first | exact HB.out | apply below_alloc | apply pw_below_drewN | apply below_drew1 | refine below_set ?_ GE1380.out) | exact HB.out)⟩
      ·
       rw [if_neg c6] at H
       exact absurd H (by simp)
     ·
      rw [if_neg c5] at H
      exact absurd H (by simp)
    ·
     rw [if_neg c4] at H
     have c4b0 : decide (x14_1 < (l0.length : Int)) = false := decide_eq_false c4
     clear c4
     by_cases c48 : 0 < (l0.length : Int)
     ·
      rw [if_pos c48] at H
      have c48b0 : decide (0 < (l0.length : Int)) = true := decide_eq_true c48
      have c48b1 : decide (0 < l0.length) = true := decide_eq_true (by omega)
      clear c48
      simp only [Option.some.injEq, Prod.mk.injEq] at H
      obtain ⟨rfl, rfl, rfl⟩ := H
      have p1378 : 0 ≤ (0 : Int) := (by omega)
      have q1378 : 0 < (l0.length : Int) := of_decide_eq_true (by first | (with_reducible assumption) | assumption)
      obtain ⟨ad1378, e1378, hx1378_0, hx1378_1, hx1378_2⟩ := at_T86 HR0.out 0 p1378 q1378
      cases e1378
      have qi1378 : (0 < l0.length) = True := eq_true (by omega)
      (try rw [show ((0 : Int)).toNat = 0 from rfl] at hx1378_0)
      (try rw [show 0 * 3 = 0 from rfl] at hx1378_0)
      (try rw [Addr.add_zero'] at hx1378_0)
      (try rw [show ((0 : Int)).toNat = 0 from rfl] at hx1378_1)
      (try rw [show 0 * 3 = 0 from rfl] at hx1378_1)
      (try rw [Addr.add_zero'] at hx1378_1)
      (try rw [show ((0 : Int)).toNat = 0 from rfl] at hx1378_2)
      (try rw [show 0 * 3 = 0 from rfl] at hx1378_2)
      (try rw [Addr.add_zero'] at hx1378_2)
      replace hx1378_0 := (HB.out.cell (World.block_lt_of_cell? w _ hx1378_0)).trans hx1378_0
      replace hx1378_1 := (HB.out.cell (World.block_lt_of_cell? w _ hx1378_1)).trans hx1378_1
      replace hx1378_2 := (HB.out.cell (World.block_lt_of_cell? w _ hx1378_2)).trans hx1378_2
      replace p1378 := eq_true p1378
      replace q1378 := eq_true q1378
      go_wp2
      go_ret3
      exact ⟨by first | rfl | (simp [errW_none, errW_some] <;> rfl) | (simp [*, errW_none, errW_some] <;> rfl), by repeat (first | (with_reducible first | exact HB.out | apply below_alloc | apply pw_below_drewN | apply below_drew1) | exact HB.out)⟩
     ·
      rw [if_neg c48] at H
      exact absurd H (by simp)
 ·
  replace c3 := Bool.eq_false_iff.mpr c3
  subst c3
  rw [if_neg (show ¬ (false = true) by decide)] at H
  simp only [Option.some.injEq, Prod.mk.injEq] at H
  obtain ⟨rfl, rfl, rfl⟩ := H
  go_enter Try.func51, Try.ntmps51
  go_wp2_with (first | ((with_reducible refine gate_callee (f := 86) rfl ?_); refine goesL_ (some 10) rfl rfl Try.func86 (by kernel_rfl) rfl #[.int .i64 (l0.length : Int), .int .i64 1, .int .i64 200] rfl (by (try simp only [List.map_toArray, List.map_cons, List.map_nil]); first | done | rfl | (simp only [List.length_drop, List.length_take]; rfl)) ?_; (with_reducible refine (impl_InRange.calls (l0.length : Int) 1 200 false _ A2.out).mono ?_); rintro e w' ⟨rfl, ⟨nd, rfl⟩⟩; refine ⟨_, rfl, ?_⟩))
  go_ret3
  exact ⟨by first | rfl | (simp [errW_none, errW_some] <;> rfl) | (simp [*, errW_none, errW_some] <;> rfl), by repeat (first | (with_reducible first | exact HB.out | apply below_alloc | apply pw_below_drewN | apply below_drew1) | exact HB.out)⟩
end Go.Proofs.Ytbhlmeghbfmgiaa.F

namespace Go.Proofs.Ytbhlmeghbfmgiaa.F
open Go.RowKit Go.Proofs.YtbhlmeghbfmgiaaW.PrintWords Go.Proofs.YtbhlmeghbfmgiaaW.PrintLast Go.Proofs.YtbhlmeghbfmgiaaW.PrintMore
attribute [local go_sem] max2_int min2_int max_two min_two max_three min_three max_four min_four
set_option linter.unusedVariables false
set_option linter.unusedSimpArgs false
def spec_l8Ok.f (a0_0 : Int) (a0_1 : Int) (a0_2 : Int) (a0_3 : Int) : Option (Bool) := (spec_l1In.f a0_0 0 2000).bind fun t135 => (if t135 = true then ((spec_l1In.f a0_1 1 96).bind fun t136 => (if t136 = true then ((spec_l1In.f a0_2 21 108).bind fun t137 => (if t137 = true then ((spec_l1In.f a0_3 1 4).bind fun t138 => (some t138)) else (some false))) else (some false))) else (some false))
set_option maxHeartbeats 8000000 in
set_option maxRecDepth 100000 in
theorem spec_l8Ok.calls (a0_0 : Int) (a0_1 : Int) (a0_2 : Int) (a0_3 : Int) (r : Bool) (w : World) (h : spec_l8Ok.f a0_0 a0_1 a0_2 a0_3 = some r) :
  Calls Try.prog 141 #[.agg #[.int .i64 a0_0, .int .i64 a0_1, .int .i64 a0_2, .int .i64 a0_3]] w fun e w' => e = .returned (.bool r) ∧ Below w.heap.size w w' := by
 have hu26 := Try.underlying26
 have HB := Aside0.mk (Below.refl w.heap.size w)
 have H : ((spec_l1In.f a0_0 0 2000).bind fun t135 => (if t135 = true then ((spec_l1In.f a0_1 1 96).bind fun t136 => (if t136 = true then ((spec_l1In.f a0_2 21 108).bind fun t137 => (if t137 = true then ((spec_l1In.f a0_3 1 4).bind fun t138 => (some t138)) else (some false))) else (some false))) else (some false))) = some r := h
 clear h
 replace H := Option.bind_eq_some_iff.mp H
 obtain ⟨t135, A20, H⟩ := H
 try dsimp only at H
 have A2 := Aside0.mk A20
 clear A20
 by_cases c3 : t135 = true
 ·
  subst c3
  rw [if_pos rfl] at H
  replace H := Option.bind_eq_some_iff.mp H
  obtain ⟨t136, A40, H⟩ := H
  try dsimp only at H
  have A4 := Aside0.mk A40
  clear A40
  by_cases c5 : t136 = true
  ·
   subst c5
   rw [if_pos rfl] at H
   replace H := Option.bind_eq_some_iff.mp H
   obtain ⟨t137, A60, H⟩ := H
   try dsimp only at H
   have A6 := Aside0.mk A60
   clear A60
   by_cases c7 : t137 = true
   ·
    subst c7
    rw [if_pos rfl] at H
    replace H := Option.bind_eq_some_iff.mp H
    obtain ⟨t138, A80, H⟩ := H
    try dsimp only at H
    have A8 := Aside0.mk A80
    clear A80
    obtain rfl := Option.some.inj H
    go_enter Try.func141, Try.ntmps141
    go_wp2_with (first | ((with_reducible refine gate_dst (N := 1) rfl ?_); refine box_event ?hg (N := 1) ?hd (cs := #[.int .i64 a0_0, .int .i64 a0_1, .int .i64 a0_2, .int .i64 a0_3]) (t := 26) ?hr ?_; (case hd => rfl); (case hg => rfl); (case hr => first | (go_simp; done) | (go_simp; rfl)); intro gb134 hg w9 hbox hb; have n0_ := Aside0.mk (below_step (by repeat (first | (with_reducible first | exact HB.out | apply below_alloc | apply pw_below_drewN | apply below_drew1) | exact HB.out)) hb); have n1_ := Aside0.mk (hbox); have n2_ := Aside0.mk ((by rw [hg]; exact (below_size (by repeat (first | (with_reducible first | exact HB.out | apply below_alloc | apply pw_below_drewN | apply below_drew1) | exact HB.out))) : w.heap.size ≤ gb134)); have n3_ := Aside0.mk ((by rw [hg]; exact (below_size (by repeat (first | (with_reducible first | exact HB.out | apply below_alloc | apply pw_below_drewN | apply below_drew1) | exact HB.out))) : w.heap.size ≤ gb134)); clear HB; have HB := n0_; have BK134 := n1_; have GW134 := n2_; have GE134 := n3_; clear n0_ n1_ n2_ n3_; clear hb hbox hg; have hcz10_0 : w9.cell? ⟨gb134, 0, none⟩ = some (.int .i64 a0_0) := (blk_cell BK134.out 0).trans rfl; have hcz10_1 : w9.cell? ⟨gb134, 1, none⟩ = some (.int .i64 a0_1) := (blk_cell BK134.out 1).trans rfl; have hcz10_2 : w9.cell? ⟨gb134, 2, none⟩ = some (.int .i64 a0_2) := (blk_cell BK134.out 2).trans rfl; have hcz10_3 : w9.cell? ⟨gb134, 3, none⟩ = some (.int .i64 a0_3) := (blk_cell BK134.out 3).trans rfl; have hfz10_0 := blk_frozen BK134.out 0; have hfz10_1 := blk_frozen BK134.out 1; have hfz10_2 := blk_frozen BK134.out 2; have hfz10_3 := blk_frozen BK134.out 3) | ((with_reducible refine gate_callee (f := 110) rfl ?_); refine goesL_ (some 5) rfl rfl Try.func110 (by kernel_rfl) rfl #[.int .i64 a0_0, .int .i64 0, .int .i64 2000] rfl (by (try simp only [List.map_toArray, List.map_cons, List.map_nil]); first | done | rfl | (simp only [List.length_drop, List.length_take]; rfl)) ?_; (with_reducible refine (spec_l1In.calls a0_0 0 2000 true _ A2.out).mono ?_); rintro e w' ⟨rfl, ⟨nd, rfl⟩⟩; refine ⟨_, rfl, ?_⟩) | (go_at_call 110; (with_reducible refine (spec_l1In.calls a0_1 1 96 true _ A4.out).mono ?_); rintro e w' ⟨rfl, ⟨nd, rfl⟩⟩) | (go_at_call 110; (with_reducible refine (spec_l1In.calls a0_2 21 108 true _ A6.out).mono ?_); rintro e w' ⟨rfl, ⟨nd, rfl⟩⟩) | (go_at_call 110; (with_reducible refine (spec_l1In.calls a0_3 1 4 t138 _ A8.out).mono ?_); rintro e w' ⟨rfl, ⟨nd, rfl⟩⟩))
    go_ret
    exact ⟨by first | rfl | (simp [errW_none, errW_some] <;> rfl) | (simp [*, errW_none, errW_some] <;> rfl), by repeat (first | (with_reducible first | exact HB.out | apply below_alloc | apply pw_below_drewN | apply below_drew1 | refine below_set ?_ GE134.out) | exact HB.out)⟩
   ·
    replace c7 := Bool.eq_false_iff.mpr c7
    subst c7
    rw [if_neg (show ¬ (false = true) by decide)] at H
    obtain rfl := Option.some.inj H
    go_enter Try.func141, Try.ntmps141
    go_wp2_with (first | ((with_reducible refine gate_dst (N := 1) rfl ?_); refine box_event ?hg (N := 1) ?hd (cs := #[.int .i64 a0_0, .int .i64 a0_1, .int .i64 a0_2, .int .i64 a0_3]) (t := 26) ?hr ?_; (case hd => rfl); (case hg => rfl); (case hr => first | (go_simp; done) | (go_simp; rfl)); intro gb134 hg w11 hbox hb; have n0_ := Aside0.mk (below_step (by repeat (first | (with_reducible first | exact HB.out | apply below_alloc | apply pw_below_drewN | apply below_drew1) | exact HB.out)) hb); have n1_ := Aside0.mk (hbox); have n2_ := Aside0.mk ((by rw [hg]; exact (below_size (by repeat (first | (with_reducible first | exact HB.out | apply below_alloc | apply pw_below_drewN | apply below_drew1) | exact HB.out))) : w.heap.size ≤ gb134)); have n3_ := Aside0.mk ((by rw [hg]; exact (below_size (by repeat (first | (with_reducible first | exact HB.out | apply below_alloc | apply pw_below_drewN | apply below_drew1) | exact HB.out))) : w.heap.size ≤ gb134)); clear HB; have HB := n0_; have BK134 := n1_; have GW134 := n2_; have GE134 := n3_; clear n0_ n1_ n2_ n3_; clear hb hbox hg; have hcz12_0 : w11.cell? ⟨gb134, 0, none⟩ = some (.int .i64 a0_0) := (blk_cell BK134.out 0).trans rfl; have hcz12_1 : w11.cell? ⟨gb134, 1, none⟩ = some (.int .i64 a0_1) := (blk_cell BK134.out 1).trans rfl; have hcz12_2 : w11.cell? ⟨gb134, 2, none⟩ = some (.int .i64 a0_2) := (blk_cell BK134.out 2).trans rfl; have hcz12_3 : w11.cell? ⟨gb134, 3, none⟩ = some (.int .i64 a0_3) := (blk_cell BK134.out 3).trans rfl; have hfz12_0 := blk_frozen BK134.out 0; have hfz12_1 := blk_frozen BK134.out 1; have hfz12_2 := blk_frozen BK134.out 2; have hfz12_3 := blk_frozen BK134.out 3) | ((with_reducible refine gate_callee (f := 110) rfl ?_); refine goesL_ (some 5) rfl rfl Try.func110 (by kernel_rfl) rfl #[.int .i64 a0_0, .int .i64 0, .int .i64 2000] rfl (by (try simp only [List.map_toArray, List.map_cons, List.map_nil]); first | done | rfl | (simp only [List.length_drop, List.length_take]; rfl)) ?_; (with_reducible refine (spec_l1In.calls a0_0 0 2000 true _ A2.out).mono ?_); rintro e w' ⟨rfl, ⟨nd, rfl⟩⟩; refine ⟨_, rfl, ?_⟩) | (go_at_call 110; (with_reducible refine (spec_l1In.calls a0_1 1 96 true _ A4.out).mono ?_); rintro e w' ⟨rfl, ⟨nd, rfl⟩⟩) | (go_at_call 110; (with_reducible refine (spec_l1In.calls a0_2 21 108 false _ A6.out).mono ?_); rintro e w' ⟨rfl, ⟨nd, rfl⟩⟩))
    go_ret
    exact ⟨by first | rfl | (simp [errW_none, errW_some] <;> rfl) | (simp [*, errW_none, errW_some] <;> rfl), by repeat (first | (with_reducible first | exact HB.out | apply below_alloc | apply pw_below_drewN | apply below_drew1 | refine below_set ?_ GE134.out) | exact HB.out)⟩
  ·
   replace c5 := Bool.eq_false_iff.mpr c5
   subst c5
   rw [if_neg (show ¬ (false = true) by decide)] at H
   obtain rfl := Option.some.inj H
   go_enter Try.func141, Try.ntmps141
   go_wp2_with (first | ((with_reducible refine gate_dst (N := 1) rfl ?_); refine box_event ?hg (N := 1) ?hd (cs := #[.int .i64 a0_0, .int .i64 a0_1, .int .i64 a0_2, .int .i64 a0_3]) (t := 26) ?hr ?_; (case hd => rfl); (case hg => rfl); (case hr => first | (go_simp; done) | (go_simp; rfl)); intro gb134 hg w13 hbox hb; have n0_ := Aside0.mk (below_step (by repeat (first | (with_reducible first | exact HB.out | apply below_alloc | apply pw_below_drewN | apply below_drew1) | exact HB.out)) hb); have n1_ := Aside0.mk (hbox); have n2_ := Aside0.mk ((by rw [hg]; exact (below_size (by repeat (first | (with_reducible first | exact HB.out | apply below_alloc | apply pw_below_drewN | apply below_drew1) | exact HB.out))) : w.heap.size ≤ gb134)); have n3_ := Aside0.mk ((by rw [hg]; exact (below_size (by repeat (first | (with_reducible first | exact HB.out | apply below_alloc | apply pw_below_drewN | apply below_drew1) | exact HB.out))) : w.heap.size ≤ gb134)); clear HB; have HB := n0_; have BK134 := n1_; have GW134 := n2_; have GE134 := n3_; clear n0_ n1_ n2_ n3_; clear hb hbox hg; have hcz14_0 : w13.cell? ⟨gb134, 0, none⟩ = some (.int .i64 a0_0) := (blk_cell BK134.out 0).trans rfl; have hcz14_1 : w13.cell? ⟨gb134, 1, none⟩ = some (.int .i64 a0_1) := (blk_cell BK134.out 1).trans rfl; have hcz14_2 : w13.cell? ⟨gb134, 2, none⟩ = some (.int .i64 a0_2) := (blk_cell BK134.out 2).trans rfl; have hcz14_3 : w13.cell? ⟨gb134, 3, none⟩ = some (.int .i64 a0_3) := (blk_cell BK134.out 3).trans rfl; have hfz14_0 := blk_frozen BK134.out 0; have hfz14_1 := blk_frozen BK134.out 1; have hfz14_2 := blk_frozen BK134.out 2; have hfz14_3 := blk_frozen BK134.out 3) | ((with_reducible refine gate_callee (f := 110) rfl ?_); refine goesL_ (some 5) rfl rfl Try.func110 (by kernel_rfl) rfl #[.int .i64 a0_0, .int .i64 0, .int .i64 2000] rfl (by (try simp only [List.map_toArray, List.map_cons, List.map_nil]); first | done | rfl | (simp only [List.length_drop, List.length_take]; rfl)) ?_; (with_reducible refine (spec_l1In.calls a0_0 0 2000 true _ A2.out).mono ?_); rintro e w' ⟨rfl, ⟨nd, rfl⟩⟩; refine ⟨_, rfl, ?_⟩) | (go_at_call 110; (with_reducible refine (spec_l1In.calls a0_1 1 96 false _ A4.out).mono ?_); rintro e w' ⟨rfl, ⟨nd, rfl⟩⟩))
   go_ret
   exact ⟨by first | rfl | (simp [errW_none, errW_some] <;> rfl) | (simp [*, errW_none, errW_some] <;> rfl), by repeat (first | (with_reducible first | exact HB.out | apply below_alloc | apply pw_below_drewN | apply below_drew1 | refine below_set ?_ GE134.out) | exact HB.out)⟩
 ·
  replace c3 := Bool.eq_false_iff.mpr c3
  subst c3
  rw [if_neg (show ¬ (false = true) by decide)] at H
  obtain rfl := Option.some.inj H
  go_enter Try.func141, Try.ntmps141
  go_wp2_with (first | ((with_reducible refine gate_dst (N := 1) rfl ?_); refine box_event ?hg (N := 1) ?hd (cs := #[.int .i64 a0_0, .int .i64 a0_1, .int .i64 a0_2, .int .i64 a0_3]) (t := 26) ?hr ?_; (case hd => rfl); (case hg => rfl); (case hr => first | (go_simp; done) | (go_simp; rfl)); intro gb134 hg w15 hbox hb; have n0_ := Aside0.mk (below_step (by repeat (first | (with_reducible first | exact HB.out | apply below_alloc | apply pw_below_drewN | apply below_drew1) | exact HB.out)) hb); have n1_ := Aside0.mk (hbox); have n2_ := Aside0.mk ((by rw [hg]; exact (below_size (by repeat (first | (with_reducible first | exact HB.out | apply below_alloc | apply pw_below_drewN | apply below_drew1) | exact HB.out))) : w.heap.size ≤ gb134)); have n3_ := Aside0.mk ((by rw [hg]; exact (below_size (by repeat (first | (with_reducible first | exact HB.out | apply below_alloc | apply pw_below_drewN | apply below_drew1) | exact HB.out))) : w.heap.size ≤ gb134)); clear HB; have HB := n0_; have BK134 := n1_; have GW134 := n2_; have GE134 := n3_; clear n0_ n1_ n2_ n3_; clear hb hbox hg; have hcz16_0 : w15.cell? ⟨gb134, 0, none⟩ = some (.int .i64 a0_0) := (blk_cell BK134.out 0).trans rfl; have hcz16_1 : w15.cell? ⟨gb134, 1, none⟩ = some (.int .i64 a0_1) := (blk_cell BK134.out 1).trans rfl; have hcz16_2 : w15.cell? ⟨gb134, 2, none⟩ = some (.int .i64 a0_2) := (blk_cell BK134.out 2).trans rfl; have hcz16_3 : w15.cell? ⟨gb134, 3, none⟩ = some (.int .i64 a0_3) := (blk_cell BK134.out 3).trans rfl; have hfz16_0 := blk_frozen BK134.out 0; have hfz16_1 := blk_frozen BK134.out 1; have hfz16_2 := blk_frozen BK134.out 2; have hfz16_3 := blk_frozen BK134.out 3) | ((with_reducible refine gate_callee (f := 110) rfl ?_); refine goesL_ (some 5) rfl rfl Try.func110 (by kernel_rfl) rfl #[.int .i64 a0_0, .int .i64 0, .int .i64 2000] rfl (by (try simp only [List.map_toArray, List.map_cons, List.map_nil]); first | done | rfl | (simp only [List.length_drop, List.length_take]; rfl)) ?_; (with_reducible refine (spec_l1In.calls a0_0 0 2000 false _ A2.out).mono ?_); rintro e w' ⟨rfl, ⟨nd, rfl⟩⟩; refine ⟨_, rfl, ?_⟩))
  go_ret
  exact ⟨by first | rfl | (simp [errW_none, errW_some] <;> rfl) | (simp [*, errW_none, errW_some] <;> rfl), by repeat (first | (with_reducible first | exact HB.out | apply below_alloc | apply pw_below_drewN | apply below_drew1 | refine below_set ?_ GE134.out) | exact HB.out)⟩
end Go.Proofs.Ytbhlmeghbfmgiaa.F

namespace Go.Proofs.Ytbhlmeghbfmgiaa.F
open Go.RowKit Go.Proofs.YtbhlmeghbfmgiaaW.PrintWords Go.Proofs.YtbhlmeghbfmgiaaW.PrintLast Go.Proofs.YtbhlmeghbfmgiaaW.PrintMore
attribute [local go_sem] max2_int min2_int max_two min_two max_three min_three max_four min_four
set_option linter.unusedVariables false
set_option linter.unusedSimpArgs false
def spec_l8Before.f (a0_0 : Int) (a0_1 : Int) (a0_2 : Int) (a0_3 : Int) (a1_0 : Int) (a1_1 : Int) (a1_2 : Int) (a1_3 : Int) : Option (Bool) := if a0_0 = a1_0 then (if a0_3 = a1_3 then (some (decide (a0_2 < a1_2))) else (some (decide (a0_3 < a1_3)))) else (some (decide (a0_0 < a1_0)))
set_option maxHeartbeats 8000000 in
set_option maxRecDepth 100000 in
theorem spec_l8Before.calls (a0_0 : Int) (a0_1 : Int) (a0_2 : Int) (a0_3 : Int) (a1_0 : Int) (a1_1 : Int) (a1_2 : Int) (a1_3 : Int) (r : Bool) (w : World) (h : spec_l8Before.f a0_0 a0_1 a0_2 a0_3 a1_0 a1_1 a1_2 a1_3 = some r) :
  Calls Try.prog 142 #[.agg #[.int .i64 a0_0, .int .i64 a0_1, .int .i64 a0_2, .int .i64 a0_3], .agg #[.int .i64 a1_0, .int .i64 a1_1, .int .i64 a1_2, .int .i64 a1_3]] w fun e w' => e = .returned (.bool r) ∧ Below w.heap.size w w' := by
 have hu26 := Try.underlying26
 have HB := Aside0.mk (Below.refl w.heap.size w)
 have H : (if a0_0 = a1_0 then (if a0_3 = a1_3 then (some (decide (a0_2 < a1_2))) else (some (decide (a0_3 < a1_3)))) else (some (decide (a0_0 < a1_0)))) = some r := h
 clear h
 by_cases c3 : a0_0 = a1_0
 ·
  rw [if_pos c3] at H
  have c3b0 : (a0_0 == a1_0) = true := beq_iff_eq.mpr c3
  have c3b1 : (a0_0 != a1_0) = false := bne_eq_false_iff_eq.mpr c3
  clear c3
  by_cases c4 : a0_3 = a1_3
  ·
   rw [if_pos c4] at H
   have c4b0 : (a0_3 == a1_3) = true := beq_iff_eq.mpr c4
   have c4b1 : (a0_3 != a1_3) = false := bne_eq_false_iff_eq.mpr c4
   clear c4
   obtain rfl := Option.some.inj H
   go_enter Try.func142, Try.ntmps142
   go_wp2_with (first | ((with_reducible refine gate_dst (N := 2) rfl ?_); refine box_event ?hg (N := 2) ?hd (cs := #[.int .i64 a0_0, .int .i64 a0_1, .int .i64 a0_2, .int .i64 a0_3]) (t := 26) ?hr ?_; (case hd => rfl); (case hg => rfl); (case hr => first | (go_simp; done) | (go_simp; rfl)); intro gb139 hg w5 hbox hb; have n0_ := Aside0.mk (below_step (by repeat (first | (with_reducible first | exact HB.out | apply below_alloc | apply pw_below_drewN | apply below_drew1) | exact HB.out)) hb); have n1_ := Aside0.mk (hbox); have n2_ := Aside0.mk ((by rw [hg]; exact (below_size (by repeat (first | (with_reducible first | exact HB.out | apply below_alloc | apply pw_below_drewN | apply below_drew1) | exact HB.out))) : w.heap.size ≤ gb139)); have n3_ := Aside0.mk ((by rw [hg]; exact (below_size (by repeat (first | (with_reducible first | exact HB.out | apply below_alloc | apply pw_below_drewN | apply below_drew1) | exact HB.out))) : w.heap.size ≤ gb139)); clear HB; have HB := n0_; have BK139 := n1_; have GW139 := n2_; have GE139 := n3_; clear n0_ n1_ n2_ n3_; clear hb hbox hg) | ((with_reducible refine gate_dst (N := 3) rfl ?_); refine box_event ?hg (N := 3) ?hd (cs := #[.int .i64 a1_0, .int .i64 a1_1, .int .i64 a1_2, .int .i64 a1_3]) (t := 26) ?hr ?_; (case hd => rfl); (case hg => rfl); (case hr => first | (go_simp; done) | (go_simp; rfl)); intro gb140 hg w6 hbox hb; have n0_ := Aside0.mk (blk_below (g := gb139) (o := .cells #[.int .i64 a0_0, .int .i64 a0_1, .int .i64 a0_2, .int .i64 a0_3] 26 (0, 0)) (by (with_reducible repeat (first | refine blk_drewN ?_ _ | refine blk_drew ?_ | refine blk_alloc ?_ _)); exact BK139.out) hb); have n1_ := Aside0.mk (below_step (by repeat (first | (with_reducible first | exact HB.out | apply below_alloc | apply pw_below_drewN | apply below_drew1 | refine below_set ?_ GE139.out) | exact HB.out)) hb); have n2_ := Aside0.mk (hbox); have n3_ := Aside0.mk ((by rw [hg]; exact (below_size (by repeat (first | (with_reducible first | exact HB.out | apply below_alloc | apply pw_below_drewN | apply below_drew1 | refine below_set ?_ GE139.out) | exact HB.out))) : w.heap.size ≤ gb140)); have n4_ := Aside0.mk ((by rw [hg]; exact (below_size (by repeat (first | (with_reducible first | exact HB.out | apply below_alloc | apply pw_below_drewN | apply below_drew1 | refine below_set ?_ GE139.out) | exact HB.out))) : w.heap.size ≤ gb140)); have n5_ := Aside0.mk ((by rw [hg]; exact Nat.ne_of_lt (blk_lt (g := gb139) (o := .cells #[.int .i64 a0_0, .int .i64 a0_1, .int .i64 a0_2, .int .i64 a0_3] 26 (0, 0)) (by (with_reducible repeat (first | refine blk_drewN ?_ _ | refine blk_drew ?_ | refine blk_alloc ?_ _)); exact BK139.out)) : gb139 ≠ gb140)); have n6_ := Aside0.mk ((by rw [hg]; exact Nat.ne_of_gt (blk_lt (g := gb139) (o := .cells #[.int .i64 a0_0, .int .i64 a0_1, .int .i64 a0_2, .int .i64 a0_3] 26 (0, 0)) (by (with_reducible repeat (first | refine blk_drewN ?_ _ | refine blk_drew ?_ | refine blk_alloc ?_ _)); exact BK139.out)) : gb140 ≠ gb139)); clear BK139; clear HB; have BK139 := n0_; have HB := n1_; have BK140 := n2_; have GW140 := n3_; have GE140 := n4_; have NB139_140 := n5_; have NB140_139 := n6_; clear n0_ n1_ n2_ n3_ n4_ n5_ n6_; clear hb hbox hg; have hnb7 := NB139_140.out; have hnc7 := NB140_139.out; have hcz8_0 : w6.cell? ⟨gb139, 0, none⟩ = some (.int .i64 a0_0) := (blk_cell BK139.out 0).trans rfl; have hcz8_1 : w6.cell? ⟨gb139, 1, none⟩ = some (.int .i64 a0_1) := (blk_cell BK139.out 1).trans rfl; have hcz8_2 : w6.cell? ⟨gb139, 2, none⟩ = some (.int .i64 a0_2) := (blk_cell BK139.out 2).trans rfl; have hcz8_3 : w6.cell? ⟨gb139, 3, none⟩ = some (.int .i64 a0_3) := (blk_cell BK139.out 3).trans rfl; have hfz8_0 := blk_frozen BK139.out 0; have hfz8_1 := blk_frozen BK139.out 1; have hfz8_2 := blk_frozen BK139.out 2; have hfz8_3 := blk_frozen BK139.out 3; have hcz9_0 : w6.cell? ⟨gb140, 0, none⟩ = some (.int .i64 a1_0) := (blk_cell BK140.out 0).trans rfl; have hcz9_1 : w6.cell? ⟨gb140, 1, none⟩ = some (.int .i64 a1_1) := (blk_cell BK140.out 1).trans rfl; have hcz9_2 : w6.cell? ⟨gb140, 2, none⟩ = some (.int .i64 a1_2) := (blk_cell BK140.out 2).trans rfl; have hcz9_3 : w6.cell? ⟨gb140, 3, none⟩ = some (.int .i64 a1_3) := (blk_cell BK140.out 3).trans rfl; have hfz9_0 := blk_frozen BK140.out 0; have hfz9_1 := blk_frozen BK140.out 1; have hfz9_2 := blk_frozen BK140.out 2; have hfz9_3 := blk_frozen BK140.out 3))
   go_ret
   exact ⟨by first | rfl | (simp [errW_none, errW_some] <;> rfl) | (simp [*, errW_none, errW_some] <;> rfl), by repeat (first | (with_reducible first | exact HB.out | apply below_alloc | apply pw_below_drewN | apply below_drew1 | refine below_set ?_ GE139.out | refine below_set ?_ GE140.out) | exact HB.out)⟩
  ·
   rw [if_neg c4] at H
   have c4b0 : (a0_3 == a1_3) = false := beq_eq_false_iff_ne.mpr c4
   have c4b1 : (a0_3 != a1_3) = true := bne_iff_ne.mpr c4
   obtain rfl := Option.some.inj H
   go_enter Try.func142, Try.ntmps142
   go_wp2_with (first | ((with_reducible refine gate_dst (N := 2) rfl ?_); refine box_event ?hg (N := 2) ?hd (cs := #[.int .i64 a0_0, .int .i64 a0_1, .int .i64 a0_2, .int .i64 a0_3]) (t := 26) ?hr ?_; (case hd => rfl); (case hg => rfl); (case hr => first | (go_simp; done) | (go_simp; rfl)); intro gb139 hg w10 hbox hb; have n0_ := Aside0.mk (below_step (by repeat (first | (with_reducible first | exact HB.out | apply below_alloc | apply pw_below_drewN | apply below_drew1) | exact HB.out)) hb); have n1_ := Aside0.mk (hbox); have n2_ := Aside0.mk ((by rw [hg]; exact (below_size (by repeat (first | (with_reducible first | exact HB.out | apply below_alloc | apply pw_below_drewN | apply below_drew1) | exact HB.out))) : w.heap.size ≤ gb139)); have n3_ := Aside0.mk ((by rw [hg]; exact (below_size (by repeat (first | (with_reducible first | exact HB.out | apply below_alloc | apply pw_below_drewN | apply below_drew1) | exact HB.out))) : w.heap.size ≤ gb139)); clear HB; have HB := n0_; have BK139 := n1_; have GW139 := n2_; have GE139 := n3_; clear n0_ n1_ n2_ n3_; clear hb hbox hg) | ((with_reducible refine gate_dst (N := 3) rfl ?_); refine box_event ?hg (N := 3) ?hd (cs := #[.int .i64 a1_0, .int .i64 a1_1, .int .i64 a1_2, .int .i64 a1_3]) (t := 26) ?hr ?_; (case hd => rfl); (case hg => rfl); (case hr => first | (go_simp; done) | (go_simp; rfl)); intro gb140 hg w11 hbox hb; have n0_ := Aside0.mk (blk_below (g := gb139) (o := .cells #[.int .i64 a0_0, .int .i64 a0_1, .int .i64 a0_2, .int .i64 a0_3] 26 (0, 0)) (by (with_reducible repeat (first | refine blk_drewN ?_ _ | refine blk_drew ?_ | refine blk_alloc ?_ _)); exact BK139.out) hb); have n1_ := Aside0.mk (below_step (by repeat (first | (with_reducible first | exact HB.out | apply below_alloc | apply pw_below_drewN | apply below_drew1 | refine below_set ?_ GE139.out) | exact HB.out)) hb); have n2_ := Aside0.mk (hbox); have n3_ := Aside0.mk ((by rw [hg]; exact (below_size (by repeat (first | (with_reducible first | exact HB.out | apply below_alloc | apply pw_below_drewN | apply below_drew1 | refine below_set ?_ GE139.out) | exact HB.out))) : w.heap.size ≤ gb140)); have n4_ := Aside0.mk ((by rw [hg]; exact (below_size (by repeat (first | (with_reducible first | exact HB.out | apply below_alloc | apply pw_below_drewN | apply below_drew1 | refine below_set ?_ GE139.out) | exact HB.out))) : w.heap.size ≤ gb140)); have n5_ := Aside0.mk ((by rw [hg]; exact Nat.ne_of_lt (blk_lt (g := gb139) (o := .cells #[.int .i64 a0_0, .int .i64 a0_1, .int .i64 a0_2, .int .i64 a0_3] 26 (0, 0)) (by (with_reducible repeat (first | refine blk_drewN ?_ _ | refine blk_drew ?_ | refine blk_alloc ?_ _)); exact BK139.out)) : gb139 ≠ gb140)); have n6_ := Aside0.mk ((by rw [hg]; exact Nat.ne_of_gt (blk_lt (g := gb139) (o := .cells #[.int .i64 a0_0, .int .i64 a0_1, .int .i64 a0_2, .int .i64 a0_3] 26 (0, 0)) (by (with_reducible repeat (first | refine blk_drewN ?_ _ | refine blk_drew ?_ | refine blk_alloc ?_ _)); exact BK139.out)) : gb140 ≠ gb139)); clear BK139; clear HB; have BK139 := n0_; have HB := n1_; have BK140 := n2_; have GW140 := n3_; have GE140 := n4_; have NB139_140 := n5_; have NB140_139 := n6_; clear n0_ n1_ n2_ n3_ n4_ n5_ n6_; clear hb hbox hg; have hnb12 := NB139_140.out; have hnc12 := NB140_139.out; have hcz13_0 : w11.cell? ⟨gb139, 0, none⟩ = some (.int .i64 a0_0) := (blk_cell BK139.out 0).trans rfl; have hcz13_1 : w11.cell? ⟨gb139, 1, none⟩ = some (.int .i64 a0_1) := (blk_cell BK139.out 1).trans rfl; have hcz13_2 : w11.cell? ⟨gb139, 2, none⟩ = some (.int .i64 a0_2) := (blk_cell BK139.out 2).trans rfl; have hcz13_3 : w11.cell? ⟨gb139, 3, none⟩ = some (.int .i64 a0_3) := (blk_cell BK139.out 3).trans rfl; have hfz13_0 := blk_frozen BK139.out 0; have hfz13_1 := blk_frozen BK139.out 1; have hfz13_2 := blk_frozen BK139.out 2; have hfz13_3 := blk_frozen BK139.out 3; have hcz14_0 : w11.cell? ⟨gb140, 0, none⟩ = some (.int .i64 a1_0) := (blk_cell BK140.out 0).trans rfl; have hcz14_1 : w11.cell? ⟨gb140, 1, none⟩ = some (.int .i64 a1_1) := (blk_cell BK140.out 1).trans rfl; have hcz14_2 : w11.cell? ⟨gb140, 2, none⟩ = some (.int .i64 a1_2) := (blk_cell BK140.out 2).trans rfl; have hcz14_3 : w11.cell? ⟨gb140, 3, none⟩ = some (.int .i64 a1_3) := (blk_cell BK140.out 3).trans rfl; have hfz14_0 := blk_frozen BK140.out 0; have hfz14_1 := blk_frozen BK140.out 1; have hfz14_2 := blk_frozen BK140.out 2; have hfz14_3 := blk_frozen BK140.out 3))
   go_ret
   exact ⟨by first | rfl | (simp [errW_none, errW_some] <;> rfl) | (simp [*, errW_none, errW_some] <;> rfl), by repeat (first | (with_reducible first | exact HB.out | apply below_alloc | apply pw_below_drewN | apply below_drew1 | refine below_set ?_ GE139.out | refine below_set ?_ GE140.out) | exact HB.out)⟩
 ·
  rw [if_neg c3] at H
  have c3b0 : (a0_0 == a1_0) = false := beq_eq_false_iff_ne.mpr c3
  have c3b1 : (a0_0 != a1_0) = true := bne_iff_ne.mpr c3
  obtain rfl := Option.some.inj H
  go_enter Try.func142, Try.ntmps142
  go_wp2_with (first | ((with_reducible refine gate_dst (N := 2) rfl ?_); refine box_event ?hg (N := 2) ?hd (cs := #[.int .i64 a0_0, .int .i64 a0_1, .int .i64 a0_2, .int .i64 a0_3]) (t := 26) ?hr ?_; (case hd => rfl); (case hg => rfl); (case hr => first | (go_simp; done) | (go_simp; rfl)); intro gb139 hg w15 hbox hb; have n0_ := Aside0.mk (below_step (by repeat (first | (with_reducible first | exact HB.out | apply below_alloc | apply pw_below_drewN | apply below_drew1) | exact HB.out)) hb); have n1_ := Aside0.mk (hbox); have n2_ := Aside0.mk ((by rw [hg]; exact (below_size (by repeat (first | (with_reducible first | exact HB.out | apply below_alloc | apply pw_below_drewN | apply below_drew1) | exact HB.out))) : w.heap.size ≤ gb139)); have n3_ := Aside0.mk ((by rw [hg]; exact (below_size (by repeat (first | (with_reducible first | exact HB.out | apply below_alloc | apply pw_below_drewN | apply below_drew1) | exact HB.out))) : w.heap.size ≤ gb139)); clear HB; have HB := n0_; have BK139 := n1_; have GW139 := n2_; have GE139 := n3_; clear n0_ n1_ n2_ n3_; clear hb hbox hg) | ((with_reducible refine gate_dst (N := 3) rfl ?_); refine box_event ?hg (N := 3) ?hd (cs := #[.int .i64 a1_0, .int .i64 a1_1, .int .i64 a1_2, .int .i64 a1_3]) (t := 26) ?hr ?_; (case hd => rfl); (case hg => rfl); (case hr => first | (go_simp; done) | (go_simp; rfl)); intro gb140 hg w16 hbox hb; have n0_ := Aside0.mk (blk_below (g := gb139) (o := .cells #[.int .i64 a0_0, .int .i64 a0_1, .int .i64 a0_2, .int .i64 a0_3] 26 (0, 0)) (by (with_reducible repeat (first | refine blk_drewN ?_ _ | refine blk_drew ?_ | refine blk_alloc ?_ _)); exact BK139.out) hb); have n1_ := Aside0.mk (below_step (by repeat (first | (with_reducible first | exact HB.out | apply below_alloc | apply pw_below_drewN | apply below_drew1 | refine below_set ?_ GE139.out) | exact HB.out)) hb); have n2_ := Aside0.mk (hbox); have n3_ := Aside0.mk ((by rw [hg]; exact (below_size (by repeat (first | (with_reducible first | exact HB.out | apply below_alloc | apply pw_below_drewN | apply below_drew1 | refine below_set ?_ GE139.out) | exact HB.out))) : w.heap.size ≤ gb140)); have n4_ := Aside0.mk ((by rw [hg]; exact (below_size (by repeat (first | (with_reducible first | exact HB.out | apply below_alloc | apply pw_below_drewN | apply below_drew1 | refine below_set ?_ GE139.out) | exact HB.out))) : w.heap.size ≤ gb140)); have n5_ := Aside0.mk ((by rw [hg]; exact Nat.ne_of_lt (blk_lt (g := gb139) (o := .cells #[.int .i64 a0_0, .int .i64 a0_1, .int .i64 a0_2, .int .i64 a0_3] 26 (0, 0)) (by (with_reducible repeat (first | refine blk_drewN ?_ _ | refine blk_drew ?_ | refine blk_alloc ?_ _)); exact BK139.out)) : gb139 ≠ gb140)); have n6_ := Aside0.mk ((by rw [hg]; exact Nat.ne_of_gt (blk_lt (g := gb139) (o := .cells #[.int .i64 a0_0, .int .i64 a0_1, .int .i64 a0_2, .int .i64 a0_3] 26 (0, 0)) (by (with_reducible repeat (first | refine blk_drewN ?_ _ | refine blk_drew ?_ | refine blk_alloc ?_ _)); exact BK139.out)) : gb140 ≠ gb139)); clear BK139; clear HB; have BK139 := n0_; have HB := n1_; have BK140 := n2_; have GW140 := n3_; have GE140 := n4_; have NB139_140 := n5_; have NB140_139 := n6_; clear n0_ n1_ n2_ n3_ n4_ n5_ n6_; clear hb hbox hg; have hnb17 := NB139_140.out; have hnc17 := NB140_139.out; have hcz18_0 : w16.cell? ⟨gb139, 0, none⟩ = some (.int .i64 a0_0) := (blk_cell BK139.out 0).trans rfl; have hcz18_1 : w16.cell? ⟨gb139, 1, none⟩ = some (.int .i64 a0_1) := (blk_cell BK139.out 1).trans rfl; have hcz18_2 : w16.cell? ⟨gb139, 2, none⟩ = some (.int .i64 a0_2) := (blk_cell BK139.out 2).trans rfl; have hcz18_3 : w16.cell? ⟨gb139, 3, none⟩ = some (.int .i64 a0_3) := (blk_cell BK139.out 3).trans rfl; have hfz18_0 := blk_frozen BK139.out 0; have hfz18_1 := blk_frozen BK139.out 1; have hfz18_2 := blk_frozen BK139.out 2; have hfz18_3 := blk_frozen BK139.out 3; have hcz19_0 : w16.cell? ⟨gb140, 0, none⟩ = some (.int .i64 a1_0) := (blk_cell BK140.out 0).trans rfl; have hcz19_1 : w16.cell? ⟨gb140, 1, none⟩ = some (.int .i64 a1_1) := (blk_cell BK140.out 1).trans rfl; have hcz19_2 : w16.cell? ⟨gb140, 2, none⟩ = some (.int .i64 a1_2) := (blk_cell BK140.out 2).trans rfl; have hcz19_3 : w16.cell? ⟨gb140, 3, none⟩ = some (.int .i64 a1_3) := (blk_cell BK140.out 3).trans rfl; have hfz19_0 := blk_frozen BK140.out 0; have hfz19_1 := blk_frozen BK140.out 1; have hfz19_2 := blk_frozen BK140.out 2; have hfz19_3 := blk_frozen BK140.out 3))
  go_ret
  exact ⟨by first | rfl | (simp [errW_none, errW_some] <;> rfl) | (simp [*, errW_none, errW_some] <;> rfl), by repeat (first | (with_reducible first | exact HB.out | apply below_alloc | apply pw_below_drewN | apply below_drew1 | refine below_set ?_ GE139.out | refine below_set ?_ GE140.out) | exact HB.out)⟩
end Go.Proofs.Ytbhlmeghbfmgiaa.F

namespace Go.Proofs.Ytbhlmeghbfmgiaa.F
open Go.RowKit Go.Proofs.YtbhlmeghbfmgiaaW.PrintWords Go.Proofs.YtbhlmeghbfmgiaaW.PrintLast Go.Proofs.YtbhlmeghbfmgiaaW.PrintMore
attribute [local go_sem] max2_int min2_int max_two min_two max_three min_three max_four min_four
set_option linter.unusedVariables false
set_option linter.unusedSimpArgs false
def spec_IsScore.l0 : Nat → List (S26) → Int → Option (Bool)
 | 0, _, _ => none
 | k + 1, x0, x3 => if x3 < (x0.length : Int) then (if 0 ≤ x3 then ((spec_l8Ok.f ((rd_T26 x0 x3).f0) ((rd_T26 x0 x3).f1) ((rd_T26 x0 x3).f2) ((rd_T26 x0 x3).f3)).bind fun t142 => (if t142 = true then (if x3 > 0 then (if 0 ≤ (wrap64 (x3 - 1)) then (if (wrap64 (x3 - 1)) < (x0.length : Int) then ((spec_l8Before.f ((rd_T26 x0 (wrap64 (x3 - 1))).f0) ((rd_T26 x0 (wrap64 (x3 - 1))).f1) ((rd_T26 x0 (wrap64 (x3 - 1))).f2) ((rd_T26 x0 (wrap64 (x3 - 1))).f3) ((rd_T26 x0 x3).f0) ((rd_T26 x0 x3).f1) ((rd_T26 x0 x3).f2) ((rd_T26 x0 x3).f3)).bind fun t145 => (if t145 = true then (spec_IsScore.l0 k x0 (wrap64 (x3 + 1))) else (some false))) else (none)) else (none)) else (spec_IsScore.l0 k x0 (wrap64 (x3 + 1)))) else (some false))) else (none)) else (some (decide ((x0.length : Int) ≤ 40)))
def spec_IsScore.f (k : Nat) (l0 : List (S26)) : Option (Bool) := spec_IsScore.l0 k l0 0
def spec_IsScore.T4 : Bool × List (List Nat × List Nat) := (true, [([], []), ([], []), ([0, 1], [0, 1]), ([2], [2]), ([3], [3]), ([4], [4]), ([5, 4], [5]), ([6], [6]), ([7, 6], [6, 7]), ([8, 6, 6], [6, 8]), ([9], [9]), ([9], [9]), ([11, 9], [9, 11]), ([10, 12, 9], [9, 10, 12]), ([13, 9], [9, 13]), ([9], [9]), ([9], [9]), ([15, 16, 9], [9, 15, 16]), ([17, 9], [9, 17]), ([14, 18, 9, 9], [9, 14, 18]), ([19, 9], [9, 19]), ([9, 20, 6], [6, 9, 20]), ([6, 21], [6, 21])])
def spec_IsScore.B4 : List Nat := [0, 0, 3, 7, 15, 31, 63, 127, 255, 511, 1023, 1023, 3071, 8191, 16383, 1023, 1023, 99327, 230399, 524287, 1048575, 2097151, 4194303]
theorem spec_IsScore.tab4 : rtab .any (opsOf Try.f97 4) = spec_IsScore.T4 := by kernel_rfl
theorem spec_IsScore.bits4 : waitsOk spec_IsScore.T4.2 spec_IsScore.B4 = true := by kernel_rfl
set_option maxHeartbeats 8000000 in
set_option maxRecDepth 100000 in
theorem spec_IsScore.calls (k : Nat) (A0 : Option Addr) (c0 : Nat) (l0 : List (S26)) (r : Bool) (w : World) (hr0 : Kd.C k26 w A0 l0.length l0) (hc0 : l0.length ≤ c0) (h : spec_IsScore.f k l0 = some r) :
  Calls Try.prog 97 #[.slice A0 l0.length c0] w fun e w' => e = .returned (.bool r) ∧ Below w.heap.size w w' := by
 have hu26 := Try.underlying26
 have HR0 := Aside0.mk hr0
 have HC0 := Aside0.mk hc0
 clear hr0 hc0
 have HB := Aside0.mk (Below.refl w.heap.size w)
 have H : (spec_IsScore.l0 k l0 0) = some r := h
 clear h
 have H' := Aside0.mk H
 clear H
 go_enter Try.func97, Try.ntmps97
 go_wp2
 go_loopg [3] k (fun kq v3 w' => ∃ (x3_1 : Int), v3 = .int .i64 x3_1 ∧ Aside0 (spec_IsScore.l0 kq l0 x3_1 = some r) ∧ Aside0 (kq ≤ k) ∧ Aside0 (Below w.heap.size w w'))
 case atStart => exact ⟨(0), (by first | rfl | (simp; done) | (simp [*]; done)), H', ⟨Nat.le_refl _⟩, ⟨by repeat (first | (with_reducible first | exact HB.out | apply below_alloc | apply pw_below_drewN | apply below_drew1) | exact HB.out)⟩⟩
 case round =>
  clear H'
  obtain ⟨x3_1, rfl, HA, HK1, HB⟩ := hrel
  cases gk with
  | zero => exact absurd HA.out (by simp [spec_IsScore.l0])
  | succ k1 =>
   have H := HA.out
   clear HA
   simp only [spec_IsScore.l0] at H
   by_cases c2 : x3_1 < (l0.length : Int)
   ·
    rw [if_pos c2] at H
    have c2b0 : decide (x3_1 < (l0.length : Int)) = true := decide_eq_true c2
    clear c2
    by_cases c3 : 0 ≤ x3_1
    ·
     rw [if_pos c3] at H
     have c3b0 : decide (0 ≤ x3_1) = true := decide_eq_true c3
     clear c3
     replace H := Option.bind_eq_some_iff.mp H
     obtain ⟨t142, A40, H⟩ := H
     try dsimp only at H
     have A4 := Aside0.mk A40
     clear A40
     by_cases c5 : t142 = true
     ·
      subst c5
      rw [if_pos rfl] at H
      by_cases c6 : x3_1 > 0
      ·
       rw [if_pos c6] at H
       have c6b0 : decide (0 < x3_1) = true := decide_eq_true c6
       clear c6
       obtain ⟨ji7, hji7⟩ : ∃ j_ : Int, (wrap64 (x3_1 - 1)) = j_ := ⟨_, rfl⟩
       replace H : (if 0 ≤ (ji7) then (if (ji7) < (l0.length : Int) then ((spec_l8Before.f ((rd_T26 l0 (ji7)).f0) ((rd_T26 l0 (ji7)).f1) ((rd_T26 l0 (ji7)).f2) ((rd_T26 l0 (ji7)).f3) ((rd_T26 l0 x3_1).f0) ((rd_T26 l0 x3_1).f1) ((rd_T26 l0 x3_1).f2) ((rd_T26 l0 x3_1).f3)).bind fun t145 => (if t145 = true then (spec_IsScore.l0 k1 l0 (wrap64 (x3_1 + 1))) else (some false))) else (none)) else (none)) = some r := by first | (rw [hji7] at H; exact H) | (simp only [hji7] at H ⊢; exact H)
       (try rw [hji7] at A4)
       have hji7w : (IntKind.i64.wrap (x3_1 - 1)) = ji7 := (i64_w _).trans hji7
       by_cases c8 : 0 ≤ (ji7)
       ·
        rw [if_pos c8] at H
        have c8b0 : decide (0 ≤ (ji7)) = true := decide_eq_true c8
        clear c8
        by_cases c9 : (ji7) < (l0.length : Int)
        ·
         rw [if_pos c9] at H
         have c9b0 : decide ((ji7) < (l0.length : Int)) = true := decide_eq_true c9
         clear c9
         replace H := Option.bind_eq_some_iff.mp H
         obtain ⟨t145, A100, H⟩ := H
         try dsimp only at H
         have A10 := Aside0.mk A100
         clear A100
         by_cases c11 : t145 = true
         ·
          subst c11
          rw [if_pos rfl] at H
          have H' := Aside0.mk H
          clear H
          try go_wp2
          have n0_ := Aside0.mk (below_drew1 HB.out)
          clear HB
          have HB := n0_
          clear n0_
          have p141 : 0 ≤ (x3_1 : Int) := of_decide_eq_true (by first | (with_reducible assumption) | assumption)
          have q141 : x3_1 < (l0.length : Int) := of_decide_eq_true (by first | (with_reducible assumption) | assumption)
          obtain ⟨ad141, e141, hx141_0, hx141_1, hx141_2, hx141_3⟩ := at_T26 HR0.out x3_1 p141 q141
          have hw141_3 := hx141_3
          have hw141_2 := hx141_2
          have hw141_1 := hx141_1
          have hw141_0 := hx141_0
          cases e141
          replace hx141_0 := (HB.out.cell (World.block_lt_of_cell? w _ hx141_0)).trans hx141_0
          replace hx141_1 := (HB.out.cell (World.block_lt_of_cell? w _ hx141_1)).trans hx141_1
          replace hx141_2 := (HB.out.cell (World.block_lt_of_cell? w _ hx141_2)).trans hx141_2
          replace hx141_3 := (HB.out.cell (World.block_lt_of_cell? w _ hx141_3)).trans hx141_3
          replace p141 := eq_true p141
          replace q141 := eq_true q141
          have p143 : 0 ≤ ((ji7) : Int) := of_decide_eq_true (by first | (with_reducible assumption) | assumption)
          have q143 : (ji7) < (l0.length : Int) := of_decide_eq_true (by first | (with_reducible assumption) | assumption)
          obtain ⟨ad143, e143, hx143_0, hx143_1, hx143_2, hx143_3⟩ := at_T26 HR0.out (ji7) p143 q143
          have hw143_3 := hx143_3
          have hw143_2 := hx143_2
          have hw143_1 := hx143_1
          have hw143_0 := hx143_0
          obtain rfl : ad141 = ad143 := (by injection e143)
          replace hx143_0 := (HB.out.cell (World.block_lt_of_cell? w _ hx143_0)).trans hx143_0
          replace hx143_1 := (HB.out.cell (World.block_lt_of_cell? w _ hx143_1)).trans hx143_1
          replace hx143_2 := (HB.out.cell (World.block_lt_of_cell? w _ hx143_2)).trans hx143_2
          replace hx143_3 := (HB.out.cell (World.block_lt_of_cell? w _ hx143_3)).trans hx143_3
          replace p143 := eq_true p143
          replace q143 := eq_true q143
          have p144 : 0 ≤ (x3_1 : Int) := of_decide_eq_true (by first | (with_reducible assumption) | assumption)
          have q144 : x3_1 < (l0.length : Int) := of_decide_eq_true (by first | (with_reducible assumption) | assumption)
          obtain ⟨ad144, e144, hx144_0, hx144_1, hx144_2, hx144_3⟩ := at_T26 HR0.out x3_1 p144 q144
          have hw144_3 := hx144_3
          have hw144_2 := hx144_2
          have hw144_1 := hx144_1
          have hw144_0 := hx144_0
          obtain rfl : ad141 = ad144 := (by injection e144)
          replace hx144_0 := (HB.out.cell (World.block_lt_of_cell? w _ hx144_0)).trans hx144_0
          replace hx144_1 := (HB.out.cell (World.block_lt_of_cell? w _ hx144_1)).trans hx144_1
          replace hx144_2 := (HB.out.cell (World.block_lt_of_cell? w _ hx144_2)).trans hx144_2
          replace hx144_3 := (HB.out.cell (World.block_lt_of_cell? w _ hx144_3)).trans hx144_3
          replace p144 := eq_true p144
          replace q144 := eq_true q144
          refine BelowW.region (by kernel_rfl) (by kernel_rfl) ?_
          have hq0_ : wr.drew.cell? (ad141.add ((x3_1).toNat * 4)) = some (.int .i64 ((rd_T26 l0 x3_1).f0)) := ((HB.out.cell (World.block_lt_of_cell? w _ hw141_0)).trans hw141_0)
          have hq1_ : wr.drew.cell? ⟨(ad141.add ((x3_1).toNat * 4)).block, (ad141.add ((x3_1).toNat * 4)).off + 1, none⟩ = some (.int .i64 ((rd_T26 l0 x3_1).f1)) := ((HB.out.cell (World.block_lt_of_cell? w _ hw141_1)).trans hw141_1)
          have hq2_ : wr.drew.cell? ⟨(ad141.add ((x3_1).toNat * 4)).block, (ad141.add ((x3_1).toNat * 4)).off + 2, none⟩ = some (.int .i64 ((rd_T26 l0 x3_1).f2)) := ((HB.out.cell (World.block_lt_of_cell? w _ hw141_2)).trans hw141_2)
          have hq3_ : wr.drew.cell? ⟨(ad141.add ((x3_1).toNat * 4)).block, (ad141.add ((x3_1).toNat * 4)).off + 3, none⟩ = some (.int .i64 ((rd_T26 l0 x3_1).f3)) := ((HB.out.cell (World.block_lt_of_cell? w _ hw141_3)).trans hw141_3)
          have hq4_ : wr.drew.cell? (ad141.add (((ji7)).toNat * 4)) = some (.int .i64 ((rd_T26 l0 (ji7)).f0)) := ((HB.out.cell (World.block_lt_of_cell? w _ hw143_0)).trans hw143_0)
          have hq5_ : wr.drew.cell? ⟨(ad141.add (((ji7)).toNat * 4)).block, (ad141.add (((ji7)).toNat * 4)).off + 1, none⟩ = some (.int .i64 ((rd_T26 l0 (ji7)).f1)) := ((HB.out.cell (World.block_lt_of_cell? w _ hw143_1)).trans hw143_1)
          have hq6_ : wr.drew.cell? ⟨(ad141.add (((ji7)).toNat * 4)).block, (ad141.add (((ji7)).toNat * 4)).off + 2, none⟩ = some (.int .i64 ((rd_T26 l0 (ji7)).f2)) := ((HB.out.cell (World.block_lt_of_cell? w _ hw143_2)).trans hw143_2)
          have hq7_ : wr.drew.cell? ⟨(ad141.add (((ji7)).toNat * 4)).block, (ad141.add (((ji7)).toNat * 4)).off + 3, none⟩ = some (.int .i64 ((rd_T26 l0 (ji7)).f3)) := ((HB.out.cell (World.block_lt_of_cell? w _ hw143_3)).trans hw143_3)
          have hq8_ : wr.drew.cell? (ad141.add ((x3_1).toNat * 4)) = some (.int .i64 ((rd_T26 l0 x3_1).f0)) := ((HB.out.cell (World.block_lt_of_cell? w _ hw144_0)).trans hw144_0)
          have hq9_ : wr.drew.cell? ⟨(ad141.add ((x3_1).toNat * 4)).block, (ad141.add ((x3_1).toNat * 4)).off + 1, none⟩ = some (.int .i64 ((rd_T26 l0 x3_1).f1)) := ((HB.out.cell (World.block_lt_of_cell? w _ hw144_1)).trans hw144_1)
          have hq10_ : wr.drew.cell? ⟨(ad141.add ((x3_1).toNat * 4)).block, (ad141.add ((x3_1).toNat * 4)).off + 2, none⟩ = some (.int .i64 ((rd_T26 l0 x3_1).f2)) := ((HB.out.cell (World.block_lt_of_cell? w _ hw144_2)).trans hw144_2)
          have hq11_ : wr.drew.cell? ⟨(ad141.add ((x3_1).toNat * 4)).block, (ad141.add ((x3_1).toNat * 4)).off + 3, none⟩ = some (.int .i64 ((rd_T26 l0 x3_1).f3)) := ((HB.out.cell (World.block_lt_of_cell? w _ hw144_3)).trans hw144_3)
          generalize wr.drew = w12 at HB hx141_0 hx141_1 hx141_2 hx141_3 hx143_0 hx143_1 hx143_2 hx143_3 hx144_0 hx144_1 hx144_2 hx144_3 hq0_ hq1_ hq2_ hq3_ hq4_ hq5_ hq6_ hq7_ hq8_ hq9_ hq10_ hq11_ ⊢
          replace hq0_ := BelowW.at hq0_
          replace hq1_ := BelowW.at hq1_
          replace hq2_ := BelowW.at hq2_
          replace hq3_ := BelowW.at hq3_
          replace hq4_ := BelowW.at hq4_
          replace hq5_ := BelowW.at hq5_
          replace hq6_ := BelowW.at hq6_
          replace hq7_ := BelowW.at hq7_
          replace hq8_ := BelowW.at hq8_
          replace hq9_ := BelowW.at hq9_
          replace hq10_ := BelowW.at hq10_
          replace hq11_ := BelowW.at hq11_
          change wpQuiet _ _ _ _ (List.cons _ _) _
          repeat (go_big_quiet_step (first | (go_at_call 141; (with_reducible refine (spec_l8Ok.calls ((rd_T26 l0 x3_1).f0) ((rd_T26 l0 x3_1).f1) ((rd_T26 l0 x3_1).f2) ((rd_T26 l0 x3_1).f3) true _ A4.out).mono ?_); exact fun _ _ h_ => ⟨h_.1, BelowW.step _ h_.2⟩) | (go_at_call 142; (with_reducible refine (spec_l8Before.calls ((rd_T26 l0 (ji7)).f0) ((rd_T26 l0 (ji7)).f1) ((rd_T26 l0 (ji7)).f2) ((rd_T26 l0 (ji7)).f3) ((rd_T26 l0 x3_1).f0) ((rd_T26 l0 x3_1).f1) ((rd_T26 l0 x3_1).f2) ((rd_T26 l0 x3_1).f3) true _ A10.out).mono ?_); exact fun _ _ h_ => ⟨h_.1, BelowW.step _ h_.2⟩)))
          refine wpQuiet_nil ?_
          intro w14 hb
          try simp only [i64_w, i32_w]
          clear hq0_ hq1_ hq2_ hq3_ hq4_ hq5_ hq6_ hq7_ hq8_ hq9_ hq10_ hq11_
          have n0_ := Aside0.mk (below_step (by repeat (first | (with_reducible first | exact HB.out | apply below_alloc | apply pw_below_drewN | apply below_drew1) | exact HB.out)) hb)
          clear HB
          have HB := n0_
          clear n0_
          (try clear hb)
          (try clear hb2)
          (try clear hk)
          (try clear hi)
          try go_wp2
          go_roundg k1
          case measure => have := HK1.out; omega
          case rel => exact ⟨(wrap64 (x3_1 + 1)), (by first | rfl | (simp; done) | (simp [*]; done)), H', ⟨by have := HK1.out; omega⟩, ⟨by repeat (first | (with_reducible first | exact HB.out | apply below_alloc | apply pw_below_drewN | apply below_drew1) | exact HB.out)⟩⟩
         ·
          replace c11 := Bool.eq_false_iff.mpr c11
          subst c11
          rw [if_neg (show ¬ (false = true) by decide)] at H
          obtain rfl := Option.some.inj H
          try go_wp2
          have n0_ := Aside0.mk (below_drew1 HB.out)
          clear HB
          have HB := n0_
          clear n0_
          have p141 : 0 ≤ (x3_1 : Int) := of_decide_eq_true (by first | (with_reducible assumption) | assumption)
          have q141 : x3_1 < (l0.length : Int) := of_decide_eq_true (by first | (with_reducible assumption) | assumption)
          obtain ⟨ad141, e141, hx141_0, hx141_1, hx141_2, hx141_3⟩ := at_T26 HR0.out x3_1 p141 q141
          have hw141_3 := hx141_3
          have hw141_2 := hx141_2
          have hw141_1 := hx141_1
          have hw141_0 := hx141_0
          cases e141
          replace hx141_0 := (HB.out.cell (World.block_lt_of_cell? w _ hx141_0)).trans hx141_0
          replace hx141_1 := (HB.out.cell (World.block_lt_of_cell? w _ hx141_1)).trans hx141_1
          replace hx141_2 := (HB.out.cell (World.block_lt_of_cell? w _ hx141_2)).trans hx141_2
          replace hx141_3 := (HB.out.cell (World.block_lt_of_cell? w _ hx141_3)).trans hx141_3
          replace p141 := eq_true p141
          replace q141 := eq_true q141
          have p143 : 0 ≤ ((ji7) : Int) := of_decide_eq_true (by first | (with_reducible assumption) | assumption)
          have q143 : (ji7) < (l0.length : Int) := of_decide_eq_true (by first | (with_reducible assumption) | assumption)
          obtain ⟨ad143, e143, hx143_0, hx143_1, hx143_2, hx143_3⟩ := at_T26 HR0.out (ji7) p143 q143
          have hw143_3 := hx143_3
          have hw143_2 := hx143_2
          have hw143_1 := hx143_1
          have hw143_0 := hx143_0
          obtain rfl : ad141 = ad143 := (by injection e143)
          replace hx143_0 := (HB.out.cell (World.block_lt_of_cell? w _ hx143_0)).trans hx143_0
          replace hx143_1 := (HB.out.cell (World.block_lt_of_cell? w _ hx143_1)).trans hx143_1
          replace hx143_2 := (HB.out.cell (World.block_lt_of_cell? w _ hx143_2)).trans hx143_2
          replace hx143_3 := (HB.out.cell (World.block_lt_of_cell? w _ hx143_3)).trans hx143_3
          replace p143 := eq_true p143
          replace q143 := eq_true q143
          have p144 : 0 ≤ (x3_1 : Int) := of_decide_eq_true (by first | (with_reducible assumption) | assumption)
          have q144 : x3_1 < (l0.length : Int) := of_decide_eq_true (by first | (with_reducible assumption) | assumption)
          obtain ⟨ad144, e144, hx144_0, hx144_1, hx144_2, hx144_3⟩ := at_T26 HR0.out x3_1 p144 q144
          have hw144_3 := hx144_3
          have hw144_2 := hx144_2
          have hw144_1 := hx144_1
          have hw144_0 := hx144_0
          obtain rfl : ad141 = ad144 := (by injection e144)
          replace hx144_0 := (HB.out.cell (World.block_lt_of_cell? w _ hx144_0)).trans hx144_0
          replace hx144_1 := (HB.out.cell (World.block_lt_of_cell? w _ hx144_1)).trans hx144_1
          replace hx144_2 := (HB.out.cell (World.block_lt_of_cell? w _ hx144_2)).trans hx144_2
          replace hx144_3 := (HB.out.cell (World.block_lt_of_cell? w _ hx144_3)).trans hx144_3
          replace p144 := eq_true p144
          replace q144 := eq_true q144
          refine BelowW.region (by kernel_rfl) (by kernel_rfl) ?_
          have hq0_ : wr.drew.cell? (ad141.add ((x3_1).toNat * 4)) = some (.int .i64 ((rd_T26 l0 x3_1).f0)) := ((HB.out.cell (World.block_lt_of_cell? w _ hw141_0)).trans hw141_0)
          have hq1_ : wr.drew.cell? ⟨(ad141.add ((x3_1).toNat * 4)).block, (ad141.add ((x3_1).toNat * 4)).off + 1, none⟩ = some (.int .i64 ((rd_T26 l0 x3_1).f1)) := ((HB.out.cell (World.block_lt_of_cell? w _ hw141_1)).trans hw141_1)
          have hq2_ : wr.drew.cell? ⟨(ad141.add ((x3_1).toNat * 4)).block, (ad141.add ((x3_1).toNat * 4)).off + 2, none⟩ = some (.int .i64 ((rd_T26 l0 x3_1).f2)) := ((HB.out.cell (World.block_lt_of_cell? w _ hw141_2)).trans hw141_2)
          have hq3_ : wr.drew.cell? ⟨(ad141.add ((x3_1).toNat * 4)).block, (ad141.add ((x3_1).toNat * 4)).off + 3, none⟩ = some (.int .i64 ((rd_T26 l0 x3_1).f3)) := ((HB.out.cell (World.block_lt_of_cell? w _ hw141_3)).trans hw141_3)
          have hq4_ : wr.drew.cell? (ad141.add (((ji7)).toNat * 4)) = some (.int .i64 ((rd_T26 l0 (ji7)).f0)) := ((HB.out.cell (World.block_lt_of_cell? w _ hw143_0)).trans hw143_0)
          have hq5_ : wr.drew.cell? ⟨(ad141.add (((ji7)).toNat * 4)).block, (ad141.add (((ji7)).toNat * 4)).off + 1, none⟩ = some (.int .i64 ((rd_T26 l0 (ji7)).f1)) := ((HB.out.cell (World.block_lt_of_cell? w _ hw143_1)).trans hw143_1)
          have hq6_ : wr.drew.cell? ⟨(ad141.add (((ji7)).toNat * 4)).block, (ad141.add (((ji7)).toNat * 4)).off + 2, none⟩ = some (.int .i64 ((rd_T26 l0 (ji7)).f2)) := ((HB.out.cell (World.block_lt_of_cell? w _ hw143_2)).trans hw143_2)
          have hq7_ : wr.drew.cell? ⟨(ad141.add (((ji7)).toNat * 4)).block, (ad141.add (((ji7)).toNat * 4)).off + 3, none⟩ = some (.int .i64 ((rd_T26 l0 (ji7)).f3)) := ((HB.out.cell (World.block_lt_of_cell? w _ hw143_3)).trans hw143_3)
          have hq8_ : wr.drew.cell? (ad141.add ((x3_1).toNat * 4)) = some (.int .i64 ((rd_T26 l0 x3_1).f0)) := ((HB.out.cell (World.block_lt_of_cell? w _ hw144_0)).trans hw144_0)
          have hq9_ : wr.drew.cell? ⟨(ad141.add ((x3_1).toNat * 4)).block, (ad141.add ((x3_1).toNat * 4)).off + 1, none⟩ = some (.int .i64 ((rd_T26 l0 x3_1).f1)) := ((HB.out.cell (World.block_lt_of_cell? w _ hw144_1)).trans hw144_1)
          have hq10_ : wr.drew.cell? ⟨(ad141.add ((x3_1).toNat * 4)).block, (ad141.add ((x3_1).toNat * 4)).off + 2, none⟩ = some (.int .i64 ((rd_T26 l0 x3_1).f2)) := ((HB.out.cell (World.block_lt_of_cell? w _ hw144_2)).trans hw144_2)
          have hq11_ : wr.drew.cell? ⟨(ad141.add ((x3_1).toNat * 4)).block, (ad141.add ((x3_1).toNat * 4)).off + 3, none⟩ = some (.int .i64 ((rd_T26 l0 x3_1).f3)) := ((HB.out.cell (World.block_lt_of_cell? w _ hw144_3)).trans hw144_3)
          generalize wr.drew = w15 at HB hx141_0 hx141_1 hx141_2 hx141_3 hx143_0 hx143_1 hx143_2 hx143_3 hx144_0 hx144_1 hx144_2 hx144_3 hq0_ hq1_ hq2_ hq3_ hq4_ hq5_ hq6_ hq7_ hq8_ hq9_ hq10_ hq11_ ⊢
          replace hq0_ := BelowW.at hq0_
          replace hq1_ := BelowW.at hq1_
          replace hq2_ := BelowW.at hq2_
          replace hq3_ := BelowW.at hq3_
          replace hq4_ := BelowW.at hq4_
          replace hq5_ := BelowW.at hq5_
          replace hq6_ := BelowW.at hq6_
          replace hq7_ := BelowW.at hq7_
          replace hq8_ := BelowW.at hq8_
          replace hq9_ := BelowW.at hq9_
          replace hq10_ := BelowW.at hq10_
          replace hq11_ := BelowW.at hq11_
          change wpQuiet _ _ _ _ (List.cons _ _) _
          repeat (go_big_quiet_step (first | (go_at_call 141; (with_reducible refine (spec_l8Ok.calls ((rd_T26 l0 x3_1).f0) ((rd_T26 l0 x3_1).f1) ((rd_T26 l0 x3_1).f2) ((rd_T26 l0 x3_1).f3) true _ A4.out).mono ?_); exact fun _ _ h_ => ⟨h_.1, BelowW.step _ h_.2⟩) | (go_at_call 142; (with_reducible refine (spec_l8Before.calls ((rd_T26 l0 (ji7)).f0) ((rd_T26 l0 (ji7)).f1) ((rd_T26 l0 (ji7)).f2) ((rd_T26 l0 (ji7)).f3) ((rd_T26 l0 x3_1).f0) ((rd_T26 l0 x3_1).f1) ((rd_T26 l0 x3_1).f2) ((rd_T26 l0 x3_1).f3) false _ A10.out).mono ?_); exact fun _ _ h_ => ⟨h_.1, BelowW.step _ h_.2⟩)))
          refine wpQuiet_nil ?_
          intro w17 hb
          try simp only [i64_w, i32_w]
          clear hq0_ hq1_ hq2_ hq3_ hq4_ hq5_ hq6_ hq7_ hq8_ hq9_ hq10_ hq11_
          have n0_ := Aside0.mk (below_step (by repeat (first | (with_reducible first | exact HB.out | apply below_alloc | apply pw_below_drewN | apply below_drew1) | exact HB.out)) hb)
          clear HB
          have HB := n0_
          clear n0_
          (try clear hb)
          (try clear hb2)
          (try clear hk)
          (try clear hi)
          try go_wp2
          go_ret
          exact ⟨by first | rfl | (simp [errW_none, errW_some] <;> rfl) | (simp only [← hji7]; first | rfl | (simp [errW_none, errW_some] <;> rfl)) | (simp [*, errW_none, errW_some] <;> rfl), by repeat (first | (with_reducible first | exact HB.out | apply below_alloc | apply pw_below_drewN | apply below_drew1) | exact HB.out)⟩
        ·
         rw [if_neg c9] at H
         exact absurd H (by simp)
       ·
        rw [if_neg c8] at H
        exact absurd H (by simp)
      ·
       rw [if_neg c6] at H
       have c6b0 : decide (0 < x3_1) = false := decide_eq_false c6
       clear c6
       have H' := Aside0.mk H
       clear H
       try go_wp2
       have n0_ := Aside0.mk (below_drew1 HB.out)
       clear HB
       have HB := n0_
       clear n0_
       have p141 : 0 ≤ (x3_1 : Int) := of_decide_eq_true (by first | (with_reducible assumption) | assumption)
       have q141 : x3_1 < (l0.length : Int) := of_decide_eq_true (by first | (with_reducible assumption) | assumption)
       obtain ⟨ad141, e141, hx141_0, hx141_1, hx141_2, hx141_3⟩ := at_T26 HR0.out x3_1 p141 q141
       have hw141_3 := hx141_3
       have hw141_2 := hx141_2
       have hw141_1 := hx141_1
       have hw141_0 := hx141_0
       cases e141
       replace hx141_0 := (HB.out.cell (World.block_lt_of_cell? w _ hx141_0)).trans hx141_0
       replace hx141_1 := (HB.out.cell (World.block_lt_of_cell? w _ hx141_1)).trans hx141_1
       replace hx141_2 := (HB.out.cell (World.block_lt_of_cell? w _ hx141_2)).trans hx141_2
       replace hx141_3 := (HB.out.cell (World.block_lt_of_cell? w _ hx141_3)).trans hx141_3
       replace p141 := eq_true p141
       replace q141 := eq_true q141
       refine BelowW.region (by kernel_rfl) (by kernel_rfl) ?_
       have hq0_ : wr.drew.cell? (ad141.add ((x3_1).toNat * 4)) = some (.int .i64 ((rd_T26 l0 x3_1).f0)) := ((HB.out.cell (World.block_lt_of_cell? w _ hw141_0)).trans hw141_0)
       have hq1_ : wr.drew.cell? ⟨(ad141.add ((x3_1).toNat * 4)).block, (ad141.add ((x3_1).toNat * 4)).off + 1, none⟩ = some (.int .i64 ((rd_T26 l0 x3_1).f1)) := ((HB.out.cell (World.block_lt_of_cell? w _ hw141_1)).trans hw141_1)
       have hq2_ : wr.drew.cell? ⟨(ad141.add ((x3_1).toNat * 4)).block, (ad141.add ((x3_1).toNat * 4)).off + 2, none⟩ = some (.int .i64 ((rd_T26 l0 x3_1).f2)) := ((HB.out.cell (World.block_lt_of_cell? w _ hw141_2)).trans hw141_2)
       have hq3_ : wr.drew.cell? ⟨(ad141.add ((x3_1).toNat * 4)).block, (ad141.add ((x3_1).toNat * 4)).off + 3, none⟩ = some (.int .i64 ((rd_T26 l0 x3_1).f3)) := ((HB.out.cell (World.block_lt_of_cell? w _ hw141_3)).trans hw141_3)
       generalize wr.drew = w18 at HB hx141_0 hx141_1 hx141_2 hx141_3 hq0_ hq1_ hq2_ hq3_ ⊢
       replace hq0_ := BelowW.at hq0_
       replace hq1_ := BelowW.at hq1_
       replace hq2_ := BelowW.at hq2_
       replace hq3_ := BelowW.at hq3_
       change wpQuiet _ _ _ _ (List.cons _ _) _
       repeat (go_big_quiet_step (first | (go_at_call 141; (with_reducible refine (spec_l8Ok.calls ((rd_T26 l0 x3_1).f0) ((rd_T26 l0 x3_1).f1) ((rd_T26 l0 x3_1).f2) ((rd_T26 l0 x3_1).f3) true _ A4.out).mono ?_); exact fun _ _ h_ => ⟨h_.1, BelowW.step _ h_.2⟩)))
       refine wpQuiet_nil ?_
       intro w19 hb
       try simp only [i64_w, i32_w]
       clear hq0_ hq1_ hq2_ hq3_
       have n0_ := Aside0.mk (below_step (by repeat (first | (with_reducible first | exact HB.out | apply below_alloc | apply pw_below_drewN | apply below_drew1) | exact HB.out)) hb)
       clear HB
       have HB := n0_
       clear n0_
       (try clear hb)
       (try clear hb2)
       (try clear hk)
       (try clear hi)
       try go_wp2
       go_roundg k1
       case measure => have := HK1.out; omega
       case rel => exact ⟨(wrap64 (x3_1 + 1)), (by first | rfl | (simp; done) | (simp [*]; done)), H', ⟨by have := HK1.out; omega⟩, ⟨by repeat (first | (with_reducible first | exact HB.out | apply below_alloc | apply pw_below_drewN | apply below_drew1) | exact HB.out)⟩⟩
     ·
      replace c5 := Bool.eq_false_iff.mpr c5
      subst c5
      rw [if_neg (show ¬ (false = true) by decide)] at H
      obtain rfl := Option.some.inj H
      try go_wp2
      have n0_ := Aside0.mk (below_drew1 HB.out)
      clear HB
      have HB := n0_
      clear n0_
      have p141 : 0 ≤ (x3_1 : Int) := of_decide_eq_true (by first | (with_reducible assumption) | assumption)
      have q141 : x3_1 < (l0.length : Int) := of_decide_eq_true (by first | (with_reducible assumption) | assumption)
      obtain ⟨ad141, e141, hx141_0, hx141_1, hx141_2, hx141_3⟩ := at_T26 HR0.out x3_1 p141 q141
      have hw141_3 := hx141_3
      have hw141_2 := hx141_2
      have hw141_1 := hx141_1
      have hw141_0 := hx141_0
      cases e141
      replace hx141_0 := (HB.out.cell (World.block_lt_of_cell? w _ hx141_0)).trans hx141_0
      replace hx141_1 := (HB.out.cell (World.block_lt_of_cell? w _ hx141_1)).trans hx141_1
      replace hx141_2 := (HB.out.cell (World.block_lt_of_cell? w _ hx141_2)).trans hx141_2
      replace hx141_3 := (HB.out.cell (World.block_lt_of_cell? w _ hx141_3)).trans hx141_3
      replace p141 := eq_true p141
      replace q141 := eq_true q141
      refine BelowW.region (by kernel_rfl) (by kernel_rfl) ?_
      have hq0_ : wr.drew.cell? (ad141.add ((x3_1).toNat * 4)) = some (.int .i64 ((rd_T26 l0 x3_1).f0)) := ((HB.out.cell (World.block_lt_of_cell? w _ hw141_0)).trans hw141_0)
      have hq1_ : wr.drew.cell? ⟨(ad141.add ((x3_1).toNat * 4)).block, (ad141.add ((x3_1).toNat * 4)).off + 1, none⟩ = some (.int .i64 ((rd_T26 l0 x3_1).f1)) := ((HB.out.cell (World.block_lt_of_cell? w _ hw141_1)).trans hw141_1)
      have hq2_ : wr.drew.cell? ⟨(ad141.add ((x3_1).toNat * 4)).block, (ad141.add ((x3_1).toNat * 4)).off + 2, none⟩ = some (.int .i64 ((rd_T26 l0 x3_1).f2)) := ((HB.out.cell (World.block_lt_of_cell? w _ hw141_2)).trans hw141_2)
      have hq3_ : wr.drew.cell? ⟨(ad141.add ((x3_1).toNat * 4)).block, (ad141.add ((x3_1).toNat * 4)).off + 3, none⟩ = some (.int .i64 ((rd_T26 l0 x3_1).f3)) := ((HB.out.cell (World.block_lt_of_cell? w _ hw141_3)).trans hw141_3)
      generalize wr.drew = w20 at HB hx141_0 hx141_1 hx141_2 hx141_3 hq0_ hq1_ hq2_ hq3_ ⊢
      replace hq0_ := BelowW.at hq0_
      replace hq1_ := BelowW.at hq1_
      replace hq2_ := BelowW.at hq2_
      replace hq3_ := BelowW.at hq3_
      change wpQuiet _ _ _ _ (List.cons _ _) _
      repeat (go_big_quiet_step (first | (go_at_call 141; (with_reducible refine (spec_l8Ok.calls ((rd_T26 l0 x3_1).f0) ((rd_T26 l0 x3_1).f1) ((rd_T26 l0 x3_1).f2) ((rd_T26 l0 x3_1).f3) false _ A4.out).mono ?_); exact fun _ _ h_ => ⟨h_.1, BelowW.step _ h_.2⟩)))
      refine wpQuiet_nil ?_
      intro w21 hb
      try simp only [i64_w, i32_w]
      clear hq0_ hq1_ hq2_ hq3_
      have n0_ := Aside0.mk (below_step (by repeat (first | (with_reducible first | exact HB.out | apply below_alloc | apply pw_below_drewN | apply below_drew1) | exact HB.out)) hb)
      clear HB
      have HB := n0_
      clear n0_
      (try clear hb)
      (try clear hb2)
      (try clear hk)
      (try clear hi)
      try go_wp2
      go_ret
      exact ⟨by first | rfl | (simp [errW_none, errW_some] <;> rfl) | (simp [*, errW_none, errW_some] <;> rfl), by repeat (first | (with_reducible first | exact HB.out | apply below_alloc | apply pw_below_drewN | apply below_drew1) | exact HB.out)⟩
    ·
     rw [if_neg c3] at H
     exact absurd H (by simp)
   ·
    rw [if_neg c2] at H
    have c2b0 : decide (x3_1 < (l0.length : Int)) = false := decide_eq_false c2
    clear c2
    obtain rfl := Option.some.inj H
    go_wp2
    go_ret
    exact ⟨by first | rfl | (simp [errW_none, errW_some] <;> rfl) | (simp [*, errW_none, errW_some] <;> rfl), by repeat (first | (with_reducible first | exact HB.out | apply below_alloc | apply pw_below_drewN | apply below_drew1) | exact HB.out)⟩
end Go.Proofs.Ytbhlmeghbfmgiaa.F
