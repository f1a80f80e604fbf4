/- FnTempos, part 4 of 6: texts of the claim, joined into one file. -/
import Derived.Test.YtbhlmeghbfmgiaaZFnTempos3

namespace Go.Proofs.Ytbhlmeghbfmgiaa.F
open Go.RowKit Go.Proofs.YtbhlmeghbfmgiaaW.PrintWords Go.Proofs.YtbhlmeghbfmgiaaW.PrintLast Go.Proofs.YtbhlmeghbfmgiaaW.PrintMore
attribute [local go_sem] max2_int min2_int max_two min_two max_three min_three max_four min_four
set_option linter.unusedVariables false
set_option linter.unusedSimpArgs false
def impl_MulRatio.f (k : Nat) (a0_0 : Int) (a0_1 : Int) (a1_0 : Int) (a1_1 : Int) : Option (Int × Int × Bool) := (impl_IsRatio.f k a0_0 a0_1).bind fun t1569 => (if t1569 = true then ((impl_IsRatio.f k a1_0 a1_1).bind fun t1570 => (if t1570 = true then ((impl_lowest.f k (wrap64 (a0_0 * a1_0)) (wrap64 (a0_1 * a1_1))).bind fun bt1571 => (some (bt1571.1, bt1571.2.1, bt1571.2.2))) else (some (0, 0, false)))) else (some (0, 0, false)))
set_option maxHeartbeats 8000000 in
set_option maxRecDepth 100000 in
theorem impl_MulRatio.calls (k : Nat) (a0_0 : Int) (a0_1 : Int) (a1_0 : Int) (a1_1 : Int) (r1 : Int) (r2 : Int) (r3 : Bool) (w : World) (h : impl_MulRatio.f k a0_0 a0_1 a1_0 a1_1 = some (r1, r2, r3)) :
  Calls Try.prog 121 #[.agg #[.int .i64 a0_0, .int .i64 a0_1], .agg #[.int .i64 a1_0, .int .i64 a1_1]] w fun e w' => e = .returned (.tuple #[.agg #[.int .i64 r1, .int .i64 r2], .bool r3]) ∧ Below w.heap.size w w' := by
 have hu95 := Try.underlying95
 have HB := Aside0.mk (Below.refl w.heap.size w)
 have H : ((impl_IsRatio.f k a0_0 a0_1).bind fun t1569 => (if t1569 = true then ((impl_IsRatio.f k a1_0 a1_1).bind fun t1570 => (if t1570 = true then ((impl_lowest.f k (wrap64 (a0_0 * a1_0)) (wrap64 (a0_1 * a1_1))).bind fun bt1571 => (some (bt1571.1, bt1571.2.1, bt1571.2.2))) else (some (0, 0, false)))) else (some (0, 0, false)))) = some (r1, r2, r3) := h
 clear h
 replace H := Option.bind_eq_some_iff.mp H
 obtain ⟨t1569, A30, H⟩ := H
 try dsimp only at H
 have A3 := Aside0.mk A30
 clear A30
 by_cases c4 : t1569 = true
 ·
  subst c4
  rw [if_pos rfl] at H
  replace H := Option.bind_eq_some_iff.mp H
  obtain ⟨t1570, A50, H⟩ := H
  try dsimp only at H
  have A5 := Aside0.mk A50
  clear A50
  by_cases c6 : t1570 = true
  ·
   subst c6
   rw [if_pos rfl] at H
   replace H := Option.bind_eq_some_iff.mp H
   obtain ⟨⟨t1571, t1572, t1573⟩, A70, H⟩ := H
   try dsimp only at H
   have A7 := Aside0.mk A70
   clear A70
   simp only [Option.some.injEq, Prod.mk.injEq] at H
   obtain ⟨rfl, rfl, rfl⟩ := H
   go_enter Try.func121, Try.ntmps121
   go_wp2_with (first | ((with_reducible refine gate_dst (N := 2) rfl ?_); refine box_event ?hg (N := 2) ?hd (cs := #[.int .i64 a0_0, .int .i64 a0_1]) (t := 95) ?hr ?_; (case hd => rfl); (case hg => rfl); (case hr => first | (go_simp; done) | (go_simp; rfl)); intro gb1566 hg w8 hbox hb; have n0_ := Aside0.mk (below_step (by repeat (first | (with_reducible first | exact HB.out | apply below_alloc | apply pw_below_drewN | apply below_drew1) | exact HB.out)) hb); have n1_ := Aside0.mk (hbox); have n2_ := Aside0.mk ((by rw [hg]; exact (below_size (by repeat (first | (with_reducible first | exact HB.out | apply below_alloc | apply pw_below_drewN | apply below_drew1) | exact HB.out))) : w.heap.size ≤ gb1566)); have n3_ := Aside0.mk ((by rw [hg]; exact (below_size (by repeat (first | (with_reducible first | exact HB.out | apply below_alloc | apply pw_below_drewN | apply below_drew1) | exact HB.out))) : w.heap.size ≤ gb1566)); clear HB; have HB := n0_; have BK1566 := n1_; have GW1566 := n2_; have GE1566 := n3_; clear n0_ n1_ n2_ n3_; clear hb hbox hg) | ((with_reducible refine gate_dst (N := 3) rfl ?_); refine box_event ?hg (N := 3) ?hd (cs := #[.int .i64 a1_0, .int .i64 a1_1]) (t := 95) ?hr ?_; (case hd => rfl); (case hg => rfl); (case hr => first | (go_simp; done) | (go_simp; rfl)); intro gb1567 hg w9 hbox hb; have n0_ := Aside0.mk (blk_below (g := gb1566) (o := .cells #[.int .i64 a0_0, .int .i64 a0_1] 95 (0, 0)) (by (with_reducible repeat (first | refine blk_drewN ?_ _ | refine blk_drew ?_ | refine blk_alloc ?_ _)); exact BK1566.out) hb); have n1_ := Aside0.mk (below_step (by repeat (first | (with_reducible first | exact HB.out | apply below_alloc | apply pw_below_drewN | apply below_drew1 | refine below_set ?_ GE1566.out) | exact HB.out)) hb); have n2_ := Aside0.mk (hbox); have n3_ := Aside0.mk ((by rw [hg]; exact (below_size (by repeat (first | (with_reducible first | exact HB.out | apply below_alloc | apply pw_below_drewN | apply below_drew1 | refine below_set ?_ GE1566.out) | exact HB.out))) : w.heap.size ≤ gb1567)); have n4_ := Aside0.mk ((by rw [hg]; exact (below_size (by repeat (first | (with_reducible first | exact HB.out | apply below_alloc | apply pw_below_drewN | apply below_drew1 | refine below_set ?_ GE1566.out) | exact HB.out))) : w.heap.size ≤ gb1567)); have n5_ := Aside0.mk ((by rw [hg]; exact Nat.ne_of_lt (blk_lt (g := gb1566) (o := .cells #[.int .i64 a0_0, .int .i64 a0_1] 95 (0, 0)) (by (with_reducible repeat (first | refine blk_drewN ?_ _ | refine blk_drew ?_ | refine blk_alloc ?_ _)); exact BK1566.out)) : gb1566 ≠ gb1567)); have n6_ := Aside0.mk ((by rw [hg]; exact Nat.ne_of_gt (blk_lt (g := gb1566) (o := .cells #[.int .i64 a0_0, .int .i64 a0_1] 95 (0, 0)) (by (with_reducible repeat (first | refine blk_drewN ?_ _ | refine blk_drew ?_ | refine blk_alloc ?_ _)); exact BK1566.out)) : gb1567 ≠ gb1566)); clear BK1566; clear HB; have BK1566 := n0_; have HB := n1_; have BK1567 := n2_; have GW1567 := n3_; have GE1567 := n4_; have NB1566_1567 := n5_; have NB1567_1566 := n6_; clear n0_ n1_ n2_ n3_ n4_ n5_ n6_; clear hb hbox hg) | ((with_reducible refine gate_dst (N := 4) rfl ?_); refine box_event ?hg (N := 4) ?hd (cs := #[.int .i64 0, .int .i64 0]) (t := 95) ?hr ?_; (case hd => rfl); (case hg => rfl); (case hr => first | (go_simp; done) | (go_simp; rfl)); intro gb1568 hg w10 hbox hb; have n0_ := Aside0.mk (blk_below (g := gb1566) (o := .cells #[.int .i64 a0_0, .int .i64 a0_1] 95 (0, 0)) (by (with_reducible repeat (first | refine blk_drewN ?_ _ | refine blk_drew ?_ | refine blk_alloc ?_ _)); exact BK1566.out) hb); have n1_ := Aside0.mk (blk_below (g := gb1567) (o := .cells #[.int .i64 a1_0, .int .i64 a1_1] 95 (0, 0)) (by (with_reducible repeat (first | refine blk_drewN ?_ _ | refine blk_drew ?_ | refine blk_alloc ?_ _)); exact BK1567.out) hb); have n2_ := Aside0.mk (below_step (by repeat (first | (with_reducible first | exact HB.out | apply below_alloc | apply pw_below_drewN | apply below_drew1 | refine below_set ?_ GE1566.out | refine below_set ?_ GE1567.out) | exact HB.out)) hb); have n3_ := Aside0.mk (hbox); have n4_ := Aside0.mk ((by rw [hg]; exact (below_size (by repeat (first | (with_reducible first | exact HB.out | apply below_alloc | apply pw_below_drewN | apply below_drew1 | refine below_set ?_ GE1566.out | refine below_set ?_ GE1567.out) | exact HB.out))) : w.heap.size ≤ gb1568)); have n5_ := Aside0.mk ((by rw [hg]; exact (below_size (by repeat (first | (with_reducible first | exact HB.out | apply below_alloc | apply pw_below_drewN | apply below_drew1 | refine below_set ?_ GE1566.out | refine below_set ?_ GE1567.out) | exact HB.out))) : w.heap.size ≤ gb1568)); have n6_ := Aside0.mk ((by rw [hg]; exact Nat.ne_of_lt (blk_lt (g := gb1566) (o := .cells #[.int .i64 a0_0, .int .i64 a0_1] 95 (0, 0)) (by (with_reducible repeat (first | refine blk_drewN ?_ _ | refine blk_drew ?_ | refine blk_alloc ?_ _)); exact BK1566.out)) : gb1566 ≠ gb1568)); have n7_ := Aside0.mk ((by rw [hg]; exact Nat.ne_of_gt (blk_lt (g := gb1566) (o := .cells #[.int .i64 a0_0, .int .i64 a0_1] 95 (0, 0)) (by (with_reducible repeat (first | refine blk_drewN ?_ _ | refine blk_drew ?_ | refine blk_alloc ?_ _)); exact BK1566.out)) : gb1568 ≠ gb1566)); have n8_ := Aside0.mk ((by rw [hg]; exact Nat.ne_of_lt (blk_lt (g := gb1567) (o := .cells #[.int .i64 a1_0, .int .i64 a1_1] 95 (0, 0)) (by (with_reducible repeat (first | refine blk_drewN ?_ _ | refine blk_drew ?_ | refine blk_alloc ?_ _)); exact BK1567.out)) : gb1567 ≠ gb1568)); have n9_ := Aside0.mk ((by rw [hg]; exact Nat.ne_of_gt (blk_lt (g := gb1567) (o := .cells #[.int .i64 a1_0, .int .i64 a1_1] 95 (0, 0)) (by (with_reducible repeat (first | refine blk_drewN ?_ _ | refine blk_drew ?_ | refine blk_alloc ?_ _)); exact BK1567.out)) : gb1568 ≠ gb1567)); clear BK1566; clear BK1567; clear HB; have BK1566 := n0_; have BK1567 := n1_; have HB := n2_; have BK1568 := n3_; have GW1568 := n4_; have GE1568 := n5_; have NB1566_1568 := n6_; have NB1568_1566 := n7_; have NB1567_1568 := n8_; have NB1568_1567 := n9_; clear n0_ n1_ n2_ n3_ n4_ n5_ n6_ n7_ n8_ n9_; clear hb hbox hg; have hnb11 := NB1566_1567.out; have hnc11 := NB1567_1566.out; have hnb12 := NB1566_1568.out; have hnc12 := NB1568_1566.out; have hcz13_0 : w10.cell? ⟨gb1566, 0, none⟩ = some (.int .i64 a0_0) := (blk_cell BK1566.out 0).trans rfl; have hcz13_1 : w10.cell? ⟨gb1566, 1, none⟩ = some (.int .i64 a0_1) := (blk_cell BK1566.out 1).trans rfl; have hfz13_0 := blk_frozen BK1566.out 0; have hfz13_1 := blk_frozen BK1566.out 1) | ((with_reducible refine gate_callee (f := 62) rfl ?_); refine goesL_ (some 7) rfl rfl Try.func62 (by kernel_rfl) rfl #[.agg #[.int .i64 a0_0, .int .i64 a0_1]] rfl (by (try simp only [List.map_toArray, List.map_cons, List.map_nil]); first | done | rfl | (simp only [List.length_drop, List.length_take]; rfl)) ?_; (with_reducible refine (impl_IsRatio.calls k a0_0 a0_1 true _ A3.out).mono ?_); rintro e w14 ⟨rfl, hb⟩; refine ⟨_, rfl, ?_⟩; have n0_ := Aside0.mk (blk_below (g := gb1566) (o := .cells #[.int .i64 a0_0, .int .i64 a0_1] 95 (0, 0)) (by (with_reducible repeat (first | refine blk_drewN ?_ _ | refine blk_drew ?_ | refine blk_alloc ?_ _)); exact BK1566.out) hb); have n1_ := Aside0.mk (blk_below (g := gb1567) (o := .cells #[.int .i64 a1_0, .int .i64 a1_1] 95 (0, 0)) (by (with_reducible repeat (first | refine blk_drewN ?_ _ | refine blk_drew ?_ | refine blk_alloc ?_ _)); exact BK1567.out) hb); have n2_ := Aside0.mk (blk_below (g := gb1568) (o := .cells #[.int .i64 0, .int .i64 0] 95 (0, 0)) (by (with_reducible repeat (first | refine blk_drewN ?_ _ | refine blk_drew ?_ | refine blk_alloc ?_ _)); exact BK1568.out) hb); have n3_ := Aside0.mk (below_step (by repeat (first | (with_reducible first | exact HB.out | apply below_alloc | apply pw_below_drewN | apply below_drew1 | refine below_set ?_ GE1566.out | refine below_set ?_ GE1567.out | refine below_set ?_ GE1568.out) | exact HB.out)) hb); clear BK1566; clear BK1567; clear BK1568; clear HB; have BK1566 := n0_; have BK1567 := n1_; have BK1568 := n2_; have HB := n3_; clear n0_ n1_ n2_ n3_; (try clear hb); (try clear hb2); (try clear hk); (try clear hi); have hnb15 := NB1567_1568.out; have hnc15 := NB1568_1567.out; have hcz16_0 : w14.cell? ⟨gb1567, 0, none⟩ = some (.int .i64 a1_0) := (blk_cell BK1567.out 0).trans rfl; have hcz16_1 : w14.cell? ⟨gb1567, 1, none⟩ = some (.int .i64 a1_1) := (blk_cell BK1567.out 1).trans rfl; have hfz16_0 := blk_frozen BK1567.out 0; have hfz16_1 := blk_frozen BK1567.out 1) | (go_at_call 62; (with_reducible refine (impl_IsRatio.calls k a1_0 a1_1 true _ A5.out).mono ?_); rintro e w17 ⟨rfl, hb⟩; have n0_ := Aside0.mk (blk_below (g := gb1566) (o := .cells #[.int .i64 a0_0, .int .i64 a0_1] 95 (0, 0)) (by (with_reducible repeat (first | refine blk_drewN ?_ _ | refine blk_drew ?_ | refine blk_alloc ?_ _)); exact BK1566.out) hb); have n1_ := Aside0.mk (blk_below (g := gb1567) (o := .cells #[.int .i64 a1_0, .int .i64 a1_1] 95 (0, 0)) (by (with_reducible repeat (first | refine blk_drewN ?_ _ | refine blk_drew ?_ | refine blk_alloc ?_ _)); exact BK1567.out) hb); have n2_ := Aside0.mk (blk_below (g := gb1568) (o := .cells #[.int .i64 0, .int .i64 0] 95 (0, 0)) (by (with_reducible repeat (first | refine blk_drewN ?_ _ | refine blk_drew ?_ | refine blk_alloc ?_ _)); exact BK1568.out) hb); have n3_ := Aside0.mk (below_step (by repeat (first | (with_reducible first | exact HB.out | apply below_alloc | apply pw_below_drewN | apply below_drew1 | refine below_set ?_ GE1566.out | refine below_set ?_ GE1567.out | refine below_set ?_ GE1568.out) | exact HB.out)) hb); clear BK1566; clear BK1567; clear BK1568; clear HB; have BK1566 := n0_; have BK1567 := n1_; have BK1568 := n2_; have HB := n3_; clear n0_ n1_ n2_ n3_; (try clear hb); (try clear hb2); (try clear hk); (try clear hi); have hcz18_0 : w17.cell? ⟨gb1566, 0, none⟩ = some (.int .i64 a0_0) := (blk_cell BK1566.out 0).trans rfl; have hcz18_1 : w17.cell? ⟨gb1566, 1, none⟩ = some (.int .i64 a0_1) := (blk_cell BK1566.out 1).trans rfl; have hfz18_0 := blk_frozen BK1566.out 0; have hfz18_1 := blk_frozen BK1566.out 1; have hcz19_0 : w17.cell? ⟨gb1567, 0, none⟩ = some (.int .i64 a1_0) := (blk_cell BK1567.out 0).trans rfl; have hcz19_1 : w17.cell? ⟨gb1567, 1, none⟩ = some (.int .i64 a1_1) := (blk_cell BK1567.out 1).trans rfl; have hfz19_0 := blk_frozen BK1567.out 0; have hfz19_1 := blk_frozen BK1567.out 1) | ((with_reducible refine gate_callee (f := 154) rfl ?_); refine goesL_ (some 25) rfl rfl Try.func154 (by kernel_rfl) rfl #[.int .i64 (wrap64 (a0_0 * a1_0)), .int .i64 (wrap64 (a0_1 * a1_1))] rfl (by (try simp only [List.map_toArray, List.map_cons, List.map_nil]); first | done | rfl | (simp only [List.length_drop, List.length_take]; rfl)) ?_; (with_reducible refine (impl_lowest.calls k (wrap64 (a0_0 * a1_0)) (wrap64 (a0_1 * a1_1)) t1571 t1572 t1573 _ A7.out).mono ?_); rintro e w20 ⟨rfl, hb⟩; refine ⟨_, rfl, ?_⟩; have n0_ := Aside0.mk (blk_below (g := gb1566) (o := .cells #[.int .i64 a0_0, .int .i64 a0_1] 95 (0, 0)) (by (with_reducible repeat (first | refine blk_drewN ?_ _ | refine blk_drew ?_ | refine blk_alloc ?_ _)); exact BK1566.out) hb); have n1_ := Aside0.mk (blk_below (g := gb1567) (o := .cells #[.int .i64 a1_0, .int .i64 a1_1] 95 (0, 0)) (by (with_reducible repeat (first | refine blk_drewN ?_ _ | refine blk_drew ?_ | refine blk_alloc ?_ _)); exact BK1567.out) hb); have n2_ := Aside0.mk (blk_below (g := gb1568) (o := .cells #[.int .i64 0, .int .i64 0] 95 (0, 0)) (by (with_reducible repeat (first | refine blk_drewN ?_ _ | refine blk_drew ?_ | refine blk_alloc ?_ _)); exact BK1568.out) hb); have n3_ := Aside0.mk (below_step (by repeat (first | (with_reducible first | exact HB.out | apply below_alloc | apply pw_below_drewN | apply below_drew1 | refine below_set ?_ GE1566.out | refine below_set ?_ GE1567.out | refine below_set ?_ GE1568.out) | exact HB.out)) hb); clear BK1566; clear BK1567; clear BK1568; clear HB; have BK1566 := n0_; have BK1567 := n1_; have BK1568 := n2_; have HB := n3_; clear n0_ n1_ n2_ n3_; (try clear hb); (try clear hb2); (try clear hk); (try clear hi); have hcz21_0 : w20.cell? ⟨gb1568, 0, none⟩ = some (.int .i64 0) := (blk_cell BK1568.out 0).trans rfl; have hcz21_1 : w20.cell? ⟨gb1568, 1, none⟩ = some (.int .i64 0) := (blk_cell BK1568.out 1).trans rfl; have hfz21_0 := blk_frozen BK1568.out 0; have hfz21_1 := blk_frozen BK1568.out 1))
   refine bodyPost_ret (results_ct rfl _ _ gb1568 95 #[.int .i64 t1571, .int .i64 t1572] (0, 0) _ rfl (by (with_reducible repeat (first | refine blk_drewN ?_ _ | refine blk_drew ?_ | refine blk_alloc ?_ _)); refine blk_put (cs := #[.int .i64 t1571, .int .i64 0]) ?_ 1 _ rfl; (with_reducible repeat (first | refine blk_drewN ?_ _ | refine blk_drew ?_ | refine blk_alloc ?_ _)); refine blk_put (cs := #[.int .i64 0, .int .i64 0]) ?_ 0 _ rfl; (with_reducible repeat (first | refine blk_drewN ?_ _ | refine blk_drew ?_ | refine blk_alloc ?_ _)); exact BK1568.out) Try.underlying95 rfl (by kernel_rfl)) rfl ?_
   exact ⟨by first | rfl | (simp [errW_none, errW_some] <;> rfl) | (simp [*, errW_none, errW_some] <;> rfl), by repeat (first | (with_reducible first | exact HB.out | apply below_alloc | apply pw_below_drewN | apply below_drew1 | refine below_set ?_ GE1566.out | refine below_set ?_ GE1567.out | refine below_set ?_ GE1568.out) | exact HB.out)⟩
  ·
   replace c6 := Bool.eq_false_iff.mpr c6
   subst c6
   rw [if_neg (show ¬ (false = true) by decide)] at H
   simp only [Option.some.injEq, Prod.mk.injEq] at H
   obtain ⟨rfl, rfl, rfl⟩ := H
   go_enter Try.func121, Try.ntmps121
   go_wp2_with (first | ((with_reducible refine gate_dst (N := 2) rfl ?_); refine box_event ?hg (N := 2) ?hd (cs := #[.int .i64 a0_0, .int .i64 a0_1]) (t := 95) ?hr ?_; (case hd => rfl); (case hg => rfl); (case hr => first | (go_simp; done) | (go_simp; rfl)); intro gb1566 hg w22 hbox hb; have n0_ := Aside0.mk (below_step (by repeat (first | (with_reducible first | exact HB.out | apply below_alloc | apply pw_below_drewN | apply below_drew1) | exact HB.out)) hb); have n1_ := Aside0.mk (hbox); have n2_ := Aside0.mk ((by rw [hg]; exact (below_size (by repeat (first | (with_reducible first | exact HB.out | apply below_alloc | apply pw_below_drewN | apply below_drew1) | exact HB.out))) : w.heap.size ≤ gb1566)); have n3_ := Aside0.mk ((by rw [hg]; exact (below_size (by repeat (first | (with_reducible first | exact HB.out | apply below_alloc | apply pw_below_drewN | apply below_drew1) | exact HB.out))) : w.heap.size ≤ gb1566)); clear HB; have HB := n0_; have BK1566 := n1_; have GW1566 := n2_; have GE1566 := n3_; clear n0_ n1_ n2_ n3_; clear hb hbox hg) | ((with_reducible refine gate_dst (N := 3) rfl ?_); refine box_event ?hg (N := 3) ?hd (cs := #[.int .i64 a1_0, .int .i64 a1_1]) (t := 95) ?hr ?_; (case hd => rfl); (case hg => rfl); (case hr => first | (go_simp; done) | (go_simp; rfl)); intro gb1567 hg w23 hbox hb; have n0_ := Aside0.mk (blk_below (g := gb1566) (o := .cells #[.int .i64 a0_0, .int .i64 a0_1] 95 (0, 0)) (by (with_reducible repeat (first | refine blk_drewN ?_ _ | refine blk_drew ?_ | refine blk_alloc ?_ _)); exact BK1566.out) hb); have n1_ := Aside0.mk (below_step (by repeat (first | (with_reducible first | exact HB.out | apply below_alloc | apply pw_below_drewN | apply below_drew1 | refine below_set ?_ GE1566.out) | exact HB.out)) hb); have n2_ := Aside0.mk (hbox); have n3_ := Aside0.mk ((by rw [hg]; exact (below_size (by repeat (first | (with_reducible first | exact HB.out | apply below_alloc | apply pw_below_drewN | apply below_drew1 | refine below_set ?_ GE1566.out) | exact HB.out))) : w.heap.size ≤ gb1567)); have n4_ := Aside0.mk ((by rw [hg]; exact (below_size (by repeat (first | (with_reducible first | exact HB.out | apply below_alloc | apply pw_below_drewN | apply below_drew1 | refine below_set ?_ GE1566.out) | exact HB.out))) : w.heap.size ≤ gb1567)); have n5_ := Aside0.mk ((by rw [hg]; exact Nat.ne_of_lt (blk_lt (g := gb1566) (o := .cells #[.int .i64 a0_0, .int .i64 a0_1] 95 (0, 0)) (by (with_reducible repeat (first | refine blk_drewN ?_ _ | refine blk_drew ?_ | refine blk_alloc ?_ _)); exact BK1566.out)) : gb1566 ≠ gb1567)); have n6_ := Aside0.mk ((by rw [hg]; exact Nat.ne_of_gt (blk_lt (g := gb1566) (o := .cells #[.int .i64 a0_0, .int .i64 a0_1] 95 (0, 0)) (by (with_reducible repeat (first | refine blk_drewN ?_ _ | refine blk_drew ?_ | refine blk_alloc ?_ _)); exact BK1566.out)) : gb1567 ≠ gb1566)); clear BK1566; clear HB; have BK1566 := n0_; have HB := n1_; have BK1567 := n2_; have GW1567 := n3_; have GE1567 := n4_; have NB1566_1567 := n5_; have NB1567_1566 := n6_; clear n0_ n1_ n2_ n3_ n4_ n5_ n6_; clear hb hbox hg) | ((with_reducible refine gate_dst (N := 4) rfl ?_); refine box_event ?hg (N := 4) ?hd (cs := #[.int .i64 0, .int .i64 0]) (t := 95) ?hr ?_; (case hd => rfl); (case hg => rfl); (case hr => first | (go_simp; done) | (go_simp; rfl)); intro gb1568 hg w24 hbox hb; have n0_ := Aside0.mk (blk_below (g := gb1566) (o := .cells #[.int .i64 a0_0, .int .i64 a0_1] 95 (0, 0)) (by (with_reducible repeat (first | refine blk_drewN ?_ _ | refine blk_drew ?_ | refine blk_alloc ?_ _)); exact BK1566.out) hb); have n1_ := Aside0.mk (blk_below (g := gb1567) (o := .cells #[.int .i64 a1_0, .int .i64 a1_1] 95 (0, 0)) (by (with_reducible repeat (first | refine blk_drewN ?_ _ | refine blk_drew ?_ | refine blk_alloc ?_ _)); exact BK1567.out) hb); have n2_ := Aside0.mk (below_step (by repeat (first | (with_reducible first | exact HB.out | apply below_alloc | apply pw_below_drewN | apply below_drew1 | refine below_set ?_ GE1566.out | refine below_set ?_ GE1567.out) | exact HB.out)) hb); have n3_ := Aside0.mk (hbox); have n4_ := Aside0.mk ((by rw [hg]; exact (below_size (by repeat (first | (with_reducible first | exact HB.out | apply below_alloc | apply pw_below_drewN | apply below_drew1 | refine below_set ?_ GE1566.out | refine below_set ?_ GE1567.out) | exact HB.out))) : w.heap.size ≤ gb1568)); have n5_ := Aside0.mk ((by rw [hg]; exact (below_size (by repeat (first | (with_reducible first | exact HB.out | apply below_alloc | apply pw_below_drewN | apply below_drew1 | refine below_set ?_ GE1566.out | refine below_set ?_ GE1567.out) | exact HB.out))) : w.heap.size ≤ gb1568)); have n6_ := Aside0.mk ((by rw [hg]; exact Nat.ne_of_lt (blk_lt (g := gb1566) (o := .cells #[.int .i64 a0_0, .int .i64 a0_1] 95 (0, 0)) (by (with_reducible repeat (first | refine blk_drewN ?_ _ | refine blk_drew ?_ | refine blk_alloc ?_ _)); exact BK1566.out)) : gb1566 ≠ gb1568)); have n7_ := Aside0.mk ((by rw [hg]; exact Nat.ne_of_gt (blk_lt (g := gb1566) (o := .cells #[.int .i64 a0_0, .int .i64 a0_1] 95 (0, 0)) (by (with_reducible repeat (first | refine blk_drewN ?_ _ | refine blk_drew ?_ | refine blk_alloc ?_ _)); exact BK1566.out)) : gb1568 ≠ gb1566)); have n8_ := Aside0.mk ((by rw [hg]; exact Nat.ne_of_lt (blk_lt (g := gb1567) (o := .cells #[.int .i64 a1_0, .int .i64 a1_1] 95 (0, 0)) (by (with_reducible repeat (first | refine blk_drewN ?_ _ | refine blk_drew ?_ | refine blk_alloc ?_ _)); exact BK1567.out)) : gb1567 ≠ gb1568)); have n9_ := Aside0.mk ((by rw [hg]; exact Nat.ne_of_gt (blk_lt (g := gb1567) (o := .cells #[.int .i64 a1_0, .int .i64 a1_1] 95 (0, 0)) (by (with_reducible repeat (first | refine blk_drewN ?_ _ | refine blk_drew ?_ | refine blk_alloc ?_ _)); exact BK1567.out)) : gb1568 ≠ gb1567)); clear BK1566; clear BK1567; clear HB; have BK1566 := n0_; have BK1567 := n1_; have HB := n2_; have BK1568 := n3_; have GW1568 := n4_; have GE1568 := n5_; have NB1566_1568 := n6_; have NB1568_1566 := n7_; have NB1567_1568 := n8_; have NB1568_1567 := n9_; clear n0_ n1_ n2_ n3_ n4_ n5_ n6_ n7_ n8_ n9_; clear hb hbox hg; have hnb25 := NB1566_1567.out; have hnc25 := NB1567_1566.out; have hnb26 := NB1566_1568.out; have hnc26 := NB1568_1566.out; have hcz27_0 : w24.cell? ⟨gb1566, 0, none⟩ = some (.int .i64 a0_0) := (blk_cell BK1566.out 0).trans rfl; have hcz27_1 : w24.cell? ⟨gb1566, 1, none⟩ = some (.int .i64 a0_1) := (blk_cell BK1566.out 1).trans rfl; have hfz27_0 := blk_frozen BK1566.out 0; have hfz27_1 := blk_frozen BK1566.out 1) | ((with_reducible refine gate_callee (f := 62) rfl ?_); refine goesL_ (some 7) rfl rfl Try.func62 (by kernel_rfl) rfl #[.agg #[.int .i64 a0_0, .int .i64 a0_1]] rfl (by (try simp only [List.map_toArray, List.map_cons, List.map_nil]); first | done | rfl | (simp only [List.length_drop, List.length_take]; rfl)) ?_; (with_reducible refine (impl_IsRatio.calls k a0_0 a0_1 true _ A3.out).mono ?_); rintro e w28 ⟨rfl, hb⟩; refine ⟨_, rfl, ?_⟩; have n0_ := Aside0.mk (blk_below (g := gb1566) (o := .cells #[.int .i64 a0_0, .int .i64 a0_1] 95 (0, 0)) (by (with_reducible repeat (first | refine blk_drewN ?_ _ | refine blk_drew ?_ | refine blk_alloc ?_ _)); exact BK1566.out) hb); have n1_ := Aside0.mk (blk_below (g := gb1567) (o := .cells #[.int .i64 a1_0, .int .i64 a1_1] 95 (0, 0)) (by (with_reducible repeat (first | refine blk_drewN ?_ _ | refine blk_drew ?_ | refine blk_alloc ?_ _)); exact BK1567.out) hb); have n2_ := Aside0.mk (blk_below (g := gb1568) (o := .cells #[.int .i64 0, .int .i64 0] 95 (0, 0)) (by (with_reducible repeat (first | refine blk_drewN ?_ _ | refine blk_drew ?_ | refine blk_alloc ?_ _)); exact BK1568.out) hb); have n3_ := Aside0.mk (below_step (by repeat (first | (with_reducible first | exact HB.out | apply below_alloc | apply pw_below_drewN | apply below_drew1 | refine below_set ?_ GE1566.out | refine below_set ?_ GE1567.out | refine below_set ?_ GE1568.out) | exact HB.out)) hb); clear BK1566; clear BK1567; clear BK1568; clear HB; have BK1566 := n0_; have BK1567 := n1_; have BK1568 := n2_; have HB := n3_; clear n0_ n1_ n2_ n3_; (try clear hb); (try clear hb2); (try clear hk); (try clear hi); have hnb29 := NB1567_1568.out; have hnc29 := NB1568_1567.out; have hcz30_0 : w28.cell? ⟨gb1567, 0, none⟩ = some (.int .i64 a1_0) := (blk_cell BK1567.out 0).trans rfl; have hcz30_1 : w28.cell? ⟨gb1567, 1, none⟩ = some (.int .i64 a1_1) := (blk_cell BK1567.out 1).trans rfl; have hfz30_0 := blk_frozen BK1567.out 0; have hfz30_1 := blk_frozen BK1567.out 1) | (go_at_call 62; (with_reducible refine (impl_IsRatio.calls k a1_0 a1_1 false _ A5.out).mono ?_); rintro e w31 ⟨rfl, hb⟩; have n0_ := Aside0.mk (blk_below (g := gb1566) (o := .cells #[.int .i64 a0_0, .int .i64 a0_1] 95 (0, 0)) (by (with_reducible repeat (first | refine blk_drewN ?_ _ | refine blk_drew ?_ | refine blk_alloc ?_ _)); exact BK1566.out) hb); have n1_ := Aside0.mk (blk_below (g := gb1567) (o := .cells #[.int .i64 a1_0, .int .i64 a1_1] 95 (0, 0)) (by (with_reducible repeat (first | refine blk_drewN ?_ _ | refine blk_drew ?_ | refine blk_alloc ?_ _)); exact BK1567.out) hb); have n2_ := Aside0.mk (blk_below (g := gb1568) (o := .cells #[.int .i64 0, .int .i64 0] 95 (0, 0)) (by (with_reducible repeat (first | refine blk_drewN ?_ _ | refine blk_drew ?_ | refine blk_alloc ?_ _)); exact BK1568.out) hb); have n3_ := Aside0.mk (below_step (by repeat (first | (with_reducible first | exact HB.out | apply below_alloc | apply pw_below_drewN | apply below_drew1 | refine below_set ?_ GE1566.out | refine below_set ?_ GE1567.out | refine below_set ?_ GE1568.out) | exact HB.out)) hb); clear BK1566; clear BK1567; clear BK1568; clear HB; have BK1566 := n0_; have BK1567 := n1_; have BK1568 := n2_; have HB := n3_; clear n0_ n1_ n2_ n3_; (try clear hb); (try clear hb2); (try clear hk); (try clear hi); have hcz32_0 : w31.cell? ⟨gb1568, 0, none⟩ = some (.int .i64 0) := (blk_cell BK1568.out 0).trans rfl; have hcz32_1 : w31.cell? ⟨gb1568, 1, none⟩ = some (.int .i64 0) := (blk_cell BK1568.out 1).trans rfl; have hfz32_0 := blk_frozen BK1568.out 0; have hfz32_1 := blk_frozen BK1568.out 1))
   refine bodyPost_ret (results_ct rfl _ _ gb1568 95 #[.int .i64 0, .int .i64 0] (0, 0) _ rfl (by (with_reducible repeat (first | refine blk_drewN ?_ _ | refine blk_drew ?_ | refine blk_alloc ?_ _)); refine blk_put (cs := #[.int .i64 0, .int .i64 0]) ?_ 1 _ rfl; (with_reducible repeat (first | refine blk_drewN ?_ _ | refine blk_drew ?_ | refine blk_alloc ?_ _)); refine blk_put (cs := #[.int .i64 0, .int .i64 0]) ?_ 0 _ rfl; (with_reducible repeat (first | refine blk_drewN ?_ _ | refine blk_drew ?_ | refine blk_alloc ?_ _)); exact BK1568.out) Try.underlying95 rfl (by kernel_rfl)) rfl ?_
   exact ⟨by first | rfl | (simp [errW_none, errW_some] <;> rfl) | (simp [*, errW_none, errW_some] <;> rfl), by repeat (first | (with_reducible first | exact HB.out | apply below_alloc | apply pw_below_drewN | apply below_drew1 | refine below_set ?_ GE1566.out | refine below_set ?_ GE1567.out | refine below_set ?_ GE1568.out) | exact HB.out)⟩
 ·
  replace c4 := Bool.eq_false_iff.mpr c4
  subst c4
  rw [if_neg (show ¬ (false = true) by decide)] at H
  simp only [Option.some.injEq, Prod.mk.injEq] at H
  obtain ⟨rfl, rfl, rfl⟩ := H
  go_enter Try.func121, Try.ntmps121
  go_wp2_with (first | ((with_reducible refine gate_dst (N := 2) rfl ?_); refine box_event ?hg (N := 2) ?hd (cs := #[.int .i64 a0_0, .int .i64 a0_1]) (t := 95) ?hr ?_; (case hd => rfl); (case hg => rfl); (case hr => first | (go_simp; done) | (go_simp; rfl)); intro gb1566 hg w33 hbox hb; have n0_ := Aside0.mk (below_step (by repeat (first | (with_reducible first | exact HB.out | apply below_alloc | apply pw_below_drewN | apply below_drew1) | exact HB.out)) hb); have n1_ := Aside0.mk (hbox); have n2_ := Aside0.mk ((by rw [hg]; exact (below_size (by repeat (first | (with_reducible first | exact HB.out | apply below_alloc | apply pw_below_drewN | apply below_drew1) | exact HB.out))) : w.heap.size ≤ gb1566)); have n3_ := Aside0.mk ((by rw [hg]; exact (below_size (by repeat (first | (with_reducible first | exact HB.out | apply below_alloc | apply pw_below_drewN | apply below_drew1) | exact HB.out))) : w.heap.size ≤ gb1566)); clear HB; have HB := n0_; have BK1566 := n1_; have GW1566 := n2_; have GE1566 := n3_; clear n0_ n1_ n2_ n3_; clear hb hbox hg) | ((with_reducible refine gate_dst (N := 3) rfl ?_); refine box_event ?hg (N := 3) ?hd (cs := #[.int .i64 a1_0, .int .i64 a1_1]) (t := 95) ?hr ?_; (case hd => rfl); (case hg => rfl); (case hr => first | (go_simp; done) | (go_simp; rfl)); intro gb1567 hg w34 hbox hb; have n0_ := Aside0.mk (blk_below (g := gb1566) (o := .cells #[.int .i64 a0_0, .int .i64 a0_1] 95 (0, 0)) (by (with_reducible repeat (first | refine blk_drewN ?_ _ | refine blk_drew ?_ | refine blk_alloc ?_ _)); exact BK1566.out) hb); have n1_ := Aside0.mk (below_step (by repeat (first | (with_reducible first | exact HB.out | apply below_alloc | apply pw_below_drewN | apply below_drew1 | refine below_set ?_ GE1566.out) | exact HB.out)) hb); have n2_ := Aside0.mk (hbox); have n3_ := Aside0.mk ((by rw [hg]; exact (below_size (by repeat (first | (with_reducible first | exact HB.out | apply below_alloc | apply pw_below_drewN | apply below_drew1 | refine below_set ?_ GE1566.out) | exact HB.out))) : w.heap.size ≤ gb1567)); have n4_ := Aside0.mk ((by rw [hg]; exact (below_size (by repeat (first | (with_reducible first | exact HB.out | apply below_alloc | apply pw_below_drewN | apply below_drew1 | refine below_set ?_ GE1566.out) | exact HB.out))) : w.heap.size ≤ gb1567)); have n5_ := Aside0.mk ((by rw [hg]; exact Nat.ne_of_lt (blk_lt (g := gb1566) (o := .cells #[.int .i64 a0_0, .int .i64 a0_1] 95 (0, 0)) (by (with_reducible repeat (first | refine blk_drewN ?_ _ | refine blk_drew ?_ | refine blk_alloc ?_ _)); exact BK1566.out)) : gb1566 ≠ gb1567)); have n6_ := Aside0.mk ((by rw [hg]; exact Nat.ne_of_gt (blk_lt (g := gb1566) (o := .cells #[.int .i64 a0_0, .int .i64 a0_1] 95 (0, 0)) (by (with_reducible repeat (first | refine blk_drewN ?_ _ | refine blk_drew ?_ | refine blk_alloc ?_ _)); exact BK1566.out)) : gb1567 ≠ gb1566)); clear BK1566; clear HB; have BK1566 := n0_; have HB := n1_; have BK1567 := n2_; have GW1567 := n3_; have GE1567 := n4_; have NB1566_1567 := n5_; have NB1567_1566 := n6_; clear n0_ n1_ n2_ n3_ n4_ n5_ n6_; clear hb hbox hg) | ((with_reducible refine gate_dst (N := 4) rfl ?_); refine box_event ?hg (N := 4) ?hd (cs := #[.int .i64 0, .int .i64 0]) (t := 95) ?hr ?_; (case hd => rfl); (case hg => rfl); (case hr => first | (go_simp; done) | (go_simp; rfl)); intro gb1568 hg w35 hbox hb; have n0_ := Aside0.mk (blk_below (g := gb1566) (o := .cells #[.int .i64 a0_0, .int .i64 a0_1] 95 (0, 0)) (by (with_reducible repeat (first | refine blk_drewN ?_ _ | refine blk_drew ?_ | refine blk_alloc ?_ _)); exact BK1566.out) hb); have n1_ := Aside0.mk (blk_below (g := gb1567) (o := .cells #[.int .i64 a1_0, .int .i64 a1_1] 95 (0, 0)) (by (with_reducible repeat (first | refine blk_drewN ?_ _ | refine blk_drew ?_ | refine blk_alloc ?_ _)); exact BK1567.out) hb); have n2_ := Aside0.mk (below_step (by repeat (first | (with_reducible first | exact HB.out | apply below_alloc | apply pw_below_drewN | apply below_drew1 | refine below_set ?_ GE1566.out | refine below_set ?_ GE1567.out) | exact HB.out)) hb); have n3_ := Aside0.mk (hbox); have n4_ := Aside0.mk ((by rw [hg]; exact (below_size (by repeat (first | (with_reducible first | exact HB.out | apply below_alloc | apply pw_below_drewN | apply below_drew1 | refine below_set ?_ GE1566.out | refine below_set ?_ GE1567.out) | exact HB.out))) : w.heap.size ≤ gb1568)); have n5_ := Aside0.mk ((by rw [hg]; exact (below_size (by repeat (first | (with_reducible first | exact HB.out | apply below_alloc | apply pw_below_drewN | apply below_drew1 | refine below_set ?_ GE1566.out | refine below_set ?_ GE1567.out) | exact HB.out))) : w.heap.size ≤ gb1568)); have n6_ := Aside0.mk ((by rw [hg]; exact Nat.ne_of_lt (blk_lt (g := gb1566) (o := .cells #[.int .i64 a0_0, .int .i64 a0_1] 95 (0, 0)) (by (with_reducible repeat (first | refine blk_drewN ?_ _ | refine blk_drew ?_ | refine blk_alloc ?_ _)); exact BK1566.out)) : gb1566 ≠ gb1568)); have n7_ := Aside0.mk ((by rw [hg]; exact Nat.ne_of_gt (blk_lt (g := gb1566) (o := .cells #[.int .i64 a0_0, .int .i64 a0_1] 95 (0, 0)) (by (with_reducible repeat (first | refine blk_drewN ?_ _ | refine blk_drew ?_ | refine blk_alloc ?_ _)); exact BK1566.out)) : gb1568 ≠ gb1566)); have n8_ := Aside0.mk ((by rw [hg]; exact Nat.ne_of_lt (blk_lt (g := gb1567) (o := .cells #[.int .i64 a1_0, .int .i64 a1_1] 95 (0, 0)) (by (with_reducible repeat (first | refine blk_drewN ?_ _ | refine blk_drew ?_ | refine blk_alloc ?_ _)); exact BK1567.out)) : gb1567 ≠ gb1568)); have n9_ := Aside0.mk ((by rw [hg]; exact Nat.ne_of_gt (blk_lt (g := gb1567) (o := .cells #[.int .i64 a1_0, .int .i64 a1_1] 95 (0, 0)) (by (with_reducible repeat (first | refine blk_drewN ?_ _ | refine blk_drew ?_ | refine blk_alloc ?_ _)); exact BK1567.out)) : gb1568 ≠ gb1567)); clear BK1566; clear BK1567; clear HB; have BK1566 := n0_; have BK1567 := n1_; have HB := n2_; have BK1568 := n3_; have GW1568 := n4_; have GE1568 := n5_; have NB1566_1568 := n6_; have NB1568_1566 := n7_; have NB1567_1568 := n8_; have NB1568_1567 := n9_; clear n0_ n1_ n2_ n3_ n4_ n5_ n6_ n7_ n8_ n9_; clear hb hbox hg; have hnb36 := NB1566_1567.out; have hnc36 := NB1567_1566.out; have hnb37 := NB1566_1568.out; have hnc37 := NB1568_1566.out; have hcz38_0 : w35.cell? ⟨gb1566, 0, none⟩ = some (.int .i64 a0_0) := (blk_cell BK1566.out 0).trans rfl; have hcz38_1 : w35.cell? ⟨gb1566, 1, none⟩ = some (.int .i64 a0_1) := (blk_cell BK1566.out 1).trans rfl; have hfz38_0 := blk_frozen BK1566.out 0; have hfz38_1 := blk_frozen BK1566.out 1) | ((with_reducible refine gate_callee (f := 62) rfl ?_); refine goesL_ (some 7) rfl rfl Try.func62 (by kernel_rfl) rfl #[.agg #[.int .i64 a0_0, .int .i64 a0_1]] rfl (by (try simp only [List.map_toArray, List.map_cons, List.map_nil]); first | done | rfl | (simp only [List.length_drop, List.length_take]; rfl)) ?_; (with_reducible refine (impl_IsRatio.calls k a0_0 a0_1 false _ A3.out).mono ?_); rintro e w39 ⟨rfl, hb⟩; refine ⟨_, rfl, ?_⟩; have n0_ := Aside0.mk (blk_below (g := gb1566) (o := .cells #[.int .i64 a0_0, .int .i64 a0_1] 95 (0, 0)) (by (with_reducible repeat (first | refine blk_drewN ?_ _ | refine blk_drew ?_ | refine blk_alloc ?_ _)); exact BK1566.out) hb); have n1_ := Aside0.mk (blk_below (g := gb1567) (o := .cells #[.int .i64 a1_0, .int .i64 a1_1] 95 (0, 0)) (by (with_reducible repeat (first | refine blk_drewN ?_ _ | refine blk_drew ?_ | refine blk_alloc ?_ _)); exact BK1567.out) hb); have n2_ := Aside0.mk (blk_below (g := gb1568) (o := .cells #[.int .i64 0, .int .i64 0] 95 (0, 0)) (by (with_reducible repeat (first | refine blk_drewN ?_ _ | refine blk_drew ?_ | refine blk_alloc ?_ _)); exact BK1568.out) hb); have n3_ := Aside0.mk (below_step (by repeat (first | (with_reducible first | exact HB.out | apply below_alloc | apply pw_below_drewN | apply below_drew1 | refine below_set ?_ GE1566.out | refine below_set ?_ GE1567.out | refine below_set ?_ GE1568.out) | exact HB.out)) hb); clear BK1566; clear BK1567; clear BK1568; clear HB; have BK1566 := n0_; have BK1567 := n1_; have BK1568 := n2_; have HB := n3_; clear n0_ n1_ n2_ n3_; (try clear hb); (try clear hb2); (try clear hk); (try clear hi); have hnb40 := NB1568_1567.out; have hnc40 := NB1567_1568.out; have hcz41_0 : w39.cell? ⟨gb1568, 0, none⟩ = some (.int .i64 0) := (blk_cell BK1568.out 0).trans rfl; have hcz41_1 : w39.cell? ⟨gb1568, 1, none⟩ = some (.int .i64 0) := (blk_cell BK1568.out 1).trans rfl; have hfz41_0 := blk_frozen BK1568.out 0; have hfz41_1 := blk_frozen BK1568.out 1))
  refine bodyPost_ret (results_ct rfl _ _ gb1568 95 #[.int .i64 0, .int .i64 0] (0, 0) _ rfl (by (with_reducible repeat (first | refine blk_drewN ?_ _ | refine blk_drew ?_ | refine blk_alloc ?_ _)); refine blk_put (cs := #[.int .i64 0, .int .i64 0]) ?_ 1 _ rfl; (with_reducible repeat (first | refine blk_drewN ?_ _ | refine blk_drew ?_ | refine blk_alloc ?_ _)); refine blk_put (cs := #[.int .i64 0, .int .i64 0]) ?_ 0 _ rfl; (with_reducible repeat (first | refine blk_drewN ?_ _ | refine blk_drew ?_ | refine blk_alloc ?_ _)); exact BK1568.out) Try.underlying95 rfl (by kernel_rfl)) rfl ?_
  exact ⟨by first | rfl | (simp [errW_none, errW_some] <;> rfl) | (simp [*, errW_none, errW_some] <;> rfl), by repeat (first | (with_reducible first | exact HB.out | apply below_alloc | apply pw_below_drewN | apply below_drew1 | refine below_set ?_ GE1566.out | refine below_set ?_ GE1567.out | refine below_set ?_ GE1568.out) | exact HB.out)⟩
end Go.Proofs.Ytbhlmeghbfmgiaa.F

namespace Go.Proofs.Ytbhlmeghbfmgiaa.F
open Go.RowKit Go.Proofs.YtbhlmeghbfmgiaaW.PrintWords Go.Proofs.YtbhlmeghbfmgiaaW.PrintLast Go.Proofs.YtbhlmeghbfmgiaaW.PrintMore
attribute [local go_sem] max2_int min2_int max_two min_two max_three min_three max_four min_four
set_option linter.unusedVariables false
set_option linter.unusedSimpArgs false
mutual
def impl_TickAt.j0 : Nat → List (S151) → Bool → Int → Int → Option (Int × Int × Bool)
 | 0, _, _, _, _ => none
 | k + 1, x0, x32, x1575000, x1575001 => if x32 = true then (some (0, 0, false)) else (if 0 < (x0.length : Int) then (if 1 ≤ (x0.length : Int) then ((some (x0.drop 1 : List (S151))).bind fun y1581 => (impl_TickAt.l0 k x0 y1581 (y1581.length : Int) 0 x1575000 x1575001 ((rd_T151 x0 0).f0) ((rd_T151 x0 0).f1) 0 1)) else (none)) else (none))
def impl_TickAt.j2 : Nat → Int → Int → Int → Int → Int → Int → Option (Int × Int × Bool)
 | 0, _, _, _, _, _, _ => none
 | k + 1, x1575000, x1575001, x1580000, x1580001, x1581000, x1581001 => (impl_AddRatio.f k x1575000 x1575001 (wrap64 (-x1581000)) x1581001).bind fun bt1592 => ((impl_MakeRatio.f k x1580001 5000).bind fun bt1596 => ((impl_MulRatio.f k bt1592.1 bt1592.2.1 bt1596.1 bt1596.2.1).bind fun bt1600 => ((impl_AddRatio.f k x1580000 1 bt1600.1 bt1600.2.1).bind fun bt1604 => (if bt1592.2.2 = true then (if bt1596.2.2 = true then (if bt1600.2.2 = true then (if bt1604.2.2 = true then (some (bt1604.1, bt1604.2.1, true)) else (some (0, 0, false))) else (some (0, 0, false))) else (some (0, 0, false))) else (some (0, 0, false))))))
def impl_TickAt.l0 : Nat → List (S151) → List (S151) → Int → Int → Int → Int → Int → Int → Int → Int → Option (Int × Int × Bool)
 | 0, _, _, _, _, _, _, _, _, _, _ => none
 | k + 1, x0, x39, x40, x41, x1575000, x1575001, x1580000, x1580001, x1581000, x1581001 => if x41 < x40 then (if 0 ≤ x41 then (if x41 < (x39.length : Int) then ((impl_TimeOf.f k x0 ((rd_T151 x39 x41).f0)).bind fun bt1587 => (if bt1587.2.2 = true then ((impl_LessRatio.f k x1575000 x1575001 bt1587.1 bt1587.2.1).bind fun t1591 => (if t1591 = true then (impl_TickAt.j2 k x1575000 x1575001 x1580000 x1580001 x1581000 x1581001) else (impl_TickAt.l0 k x0 x39 x40 (wrap64 (x41 + 1)) x1575000 x1575001 ((rd_T151 x39 x41).f0) ((rd_T151 x39 x41).f1) bt1587.1 bt1587.2.1))) else (some (0, 0, false)))) else (none)) else (none)) else (impl_TickAt.j2 k x1575000 x1575001 x1580000 x1580001 x1581000 x1581001)
end
def impl_TickAt.f (k : Nat) (l0 : List (S151)) (a1_0 : Int) (a1_1 : Int) : Option (Int × Int × Bool) := (impl_IsTempo.f k l0).bind fun t1576 => (if t1576 = true then ((impl_IsRatio.f k a1_0 a1_1).bind fun t1577 => (if t1577 = true then (impl_TickAt.j0 k l0 (decide (a1_0 < 0)) a1_0 a1_1) else (impl_TickAt.j0 k l0 true a1_0 a1_1))) else (impl_TickAt.j0 k l0 true a1_0 a1_1))
set_option maxHeartbeats 8000000 in
set_option maxRecDepth 100000 in
theorem impl_TickAt.calls (k : Nat) (A0 : Option Addr) (c0 : Nat) (l0 : List (S151)) (a1_0 : Int) (a1_1 : Int) (r1 : Int) (r2 : Int) (r3 : Bool) (w : World) (hr0 : Kd.C k151 w A0 l0.length l0) (hc0 : l0.length ≤ c0) (h : impl_TickAt.f k l0 a1_0 a1_1 = some (r1, r2, r3)) :
  Calls Try.prog 58 #[.slice A0 l0.length c0, .agg #[.int .i64 a1_0, .int .i64 a1_1]] w fun e w' => e = .returned (.tuple #[.agg #[.int .i64 r1, .int .i64 r2], .bool r3]) ∧ Below w.heap.size w w' := by
 have hu := Try.underlying95
 have hv := Try.underlying151
 have HR0 := Aside0.mk hr0
 have HC0 := Aside0.mk hc0
 clear hr0 hc0
 have F := Aside0.mk (Fr.of (Below.refl w.heap.size w))
 have H := h
 clear h
 unfold impl_TickAt.f at H
 replace H := Option.bind_eq_some_iff.mp H
 obtain ⟨t1, B_, H⟩ := H
 have A1 := Aside0.mk B_
 clear B_
 have HA := Aside0.mk H
 clear H
 go_enter Try.func58, Try.ntmps58
 go_upto_region 1 with (first
  | ((with_reducible refine gate_dst (N := 3) rfl ?_); refine box_event ?hg (N := 3) ?hd (cs := #[.int .i64 a1_0, .int .i64 a1_1]) (t := 95) ?hr ?_; (case hd => rfl); (case hg => rfl); (case hr => first | (go_simp; done) | (go_simp; rfl)); intro gm hg w1 hbox hb; have F1 := Aside0.mk (F.out.push hg hbox hb); clear F hbox hb hg; have F := F1; clear F1)
  | ((with_reducible refine gate_dst (N := 4) rfl ?_); refine box_event ?hg (N := 4) ?hd (cs := #[.int .i64 0, .int .i64 0]) (t := 95) ?hr ?_; (case hd => rfl); (case hg => rfl); (case hr => first | (go_simp; done) | (go_simp; rfl)); intro gr hg w2 hbox hb; have F1 := Aside0.mk (F.out.push hg hbox hb); clear F hbox hb hg; have F := F1; clear F1; obtain ⟨gmc0, gmc1, gmf0, gmf1⟩ := F.out.c2 (i := 0) rfl))
 (try simp only [Act.put, List.setIfInBounds_toArray, List.set_cons_zero, List.set_cons_succ])
 go_cut [32] (fun v32 wc => ∃ (kq : Nat) (b : Bool), v32 = .bool b ∧ Aside0 (impl_TickAt.j0 kq l0 b a1_0 a1_1 = some (r1, r2, r3)) ∧ Aside0 (Fr w wc [(gm, .cells #[.int .i64 a1_0, .int .i64 a1_1] 95 (0, 0)), (gr, .cells #[.int .i64 0, .int .i64 0] 95 (0, 0))]))
 case first =>
  have H := HA.out
  clear HA
  cases t1 with
  | false =>
   simp only [Bool.false_eq_true, if_false] at H
   go_wp2_with (first
    | (go_at_call 65; (with_reducible refine (impl_IsTempo.calls k A0 c0 l0 false _ ?s1 HC0.out A1.out).mono ?_); (case s1 => exact Kd.C_below HR0.out F.out.below); rintro e w3 ⟨rfl, hb⟩; have F1 := Aside0.mk (F.out.step hb); clear gmc0 gmc1 gmf0 gmf1; clear F hb; have F := F1; clear F1; obtain ⟨gmc0, gmc1, gmf0, gmf1⟩ := F.out.c2 (i := 0) rfl))
   go_meet
   case rel => exact ⟨k, true, (by first | rfl | (simp; done) | (simp [*]; done)), ⟨H⟩, F⟩
  | true =>
   simp only [if_true] at H
   replace H := Option.bind_eq_some_iff.mp H
   obtain ⟨t2, B_, H⟩ := H
   have A2 := Aside0.mk B_
   clear B_
   cases t2 with
   | false =>
    simp only [Bool.false_eq_true, if_false] at H
    go_wp2_with (first
     | (go_at_call 65; (with_reducible refine (impl_IsTempo.calls k A0 c0 l0 true _ ?s1 HC0.out A1.out).mono ?_); (case s1 => exact Kd.C_below HR0.out F.out.below); rintro e w3 ⟨rfl, hb⟩; have F1 := Aside0.mk (F.out.step hb); clear gmc0 gmc1 gmf0 gmf1; clear F hb; have F := F1; clear F1; obtain ⟨gmc0, gmc1, gmf0, gmf1⟩ := F.out.c2 (i := 0) rfl)
     | (go_at_call 62; (with_reducible refine (impl_IsRatio.calls k a1_0 a1_1 false _ A2.out).mono ?_); rintro e w4 ⟨rfl, hb⟩; have F1 := Aside0.mk (F.out.step hb); clear gmc0 gmc1 gmf0 gmf1; clear F hb; have F := F1; clear F1; obtain ⟨gmc0, gmc1, gmf0, gmf1⟩ := F.out.c2 (i := 0) rfl))
    go_meet
    case rel => exact ⟨k, true, (by first | rfl | (simp; done) | (simp [*]; done)), ⟨H⟩, F⟩
   | true =>
    simp only [if_true] at H
    go_wp2_with (first
     | (go_at_call 65; (with_reducible refine (impl_IsTempo.calls k A0 c0 l0 true _ ?s1 HC0.out A1.out).mono ?_); (case s1 => exact Kd.C_below HR0.out F.out.below); rintro e w3 ⟨rfl, hb⟩; have F1 := Aside0.mk (F.out.step hb); clear gmc0 gmc1 gmf0 gmf1; clear F hb; have F := F1; clear F1; obtain ⟨gmc0, gmc1, gmf0, gmf1⟩ := F.out.c2 (i := 0) rfl)
     | (go_at_call 62; (with_reducible refine (impl_IsRatio.calls k a1_0 a1_1 true _ A2.out).mono ?_); rintro e w4 ⟨rfl, hb⟩; have F1 := Aside0.mk (F.out.step hb); clear gmc0 gmc1 gmf0 gmf1; clear F hb; have F := F1; clear F1; obtain ⟨gmc0, gmc1, gmf0, gmf1⟩ := F.out.c2 (i := 0) rfl))
    go_meet
    case rel => exact ⟨k, decide (a1_0 < 0), (by first | rfl | (simp; done) | (simp [*]; done)), ⟨H⟩, F⟩
 case rest =>
  clear HA F A1 gmc0 gmc1 gmf0 gmf1
  obtain ⟨kq, b, rfl, HA, F⟩ := hcut
  cases kq with
  | zero => exact absurd HA.out (by simp [impl_TickAt.j0])
  | succ kj =>
   have H := HA.out
   clear HA
   simp only [impl_TickAt.j0] at H
   cases b with
   | true =>
    simp only [if_true, Option.some.injEq, Prod.mk.injEq] at H
    obtain ⟨rfl, rfl, rfl⟩ := H
    obtain ⟨grc0, grc1, grf0, grf1⟩ := F.out.c2 (i := 1) rfl
    go_wp2
    refine bodyPost_ret (results_ct rfl _ _ gr 95 #[.int .i64 0, .int .i64 0] (0, 0) _ rfl ((F.out.put2 (i := 1) rfl (.int .i64 0) (.int .i64 0)).get (i := 1) (by rfl)) hu rfl (by kernel_rfl)) rfl ?_
    exact ⟨rfl, (F.out.put2 (i := 1) rfl (.int .i64 0) (.int .i64 0)).below⟩
   | false =>
    simp only [Bool.false_eq_true, if_false] at H
    by_cases c1 : 0 < (l0.length : Int)
    ·
     rw [if_pos c1, if_pos (show 1 ≤ (l0.length : Int) by omega), Option.bind_some] at H
     obtain ⟨y, hy⟩ : ∃ y_ : List (S151), y_ = l0.drop 1 := ⟨_, rfl⟩
     rw [← hy] at H
     have HA := Aside0.mk H
     clear H
     have c2 : (1 : Int) ≤ (l0.length : Int) := by omega
     obtain ⟨ad, e, hx0, hx1⟩ := at_T151 HR0.out 0 (Int.le_refl 0) c1
     cases e
     rw [show (0 : Int).toNat = 0 from rfl, Nat.zero_mul, Addr.add_zero'] at hx0 hx1
     replace hx0 := (F.out.below.cell (World.block_lt_of_cell? w _ hx0)).trans hx0
     replace hx1 := (F.out.below.cell (World.block_lt_of_cell? w _ hx1)).trans hx1
     generalize (rd_T151 l0 0).f0 = e0 at HA hx0
     generalize (rd_T151 l0 0).f1 = e1 at HA hx1
     obtain ⟨i0, hi0, _, hsz, _⟩ := info_parts info151
     have hsl := cut_from (P := Try.prog) 41 151 .i64 Try.underlying41 hi0 2 hsz (some ad) l0.length c0 1 (by omega) c2
     have hr := Kd.C_drop (m := (1 : Int).toNat) (c := c0) HR0.out (by omega) HC0.out
     obtain ⟨A1, hA1⟩ : ∃ A1, A1 = (if c0 = (1 : Int).toNat then (some ad) else ((some ad) : Option Addr).map (·.add ((1 : Int).toNat * 2))) := ⟨_, rfl⟩
     obtain ⟨c3, hc3⟩ : ∃ c3, c3 = c0 - (1 : Int).toNat := ⟨_, rfl⟩
     have hyl : y.length = l0.length - (1 : Int).toNat := by rw [hy, List.length_drop] <;> omega
     rw [show l0.drop (1 : Int).toNat = y from hy.symm] at hr
     replace hr : Kd.C k151 w A1 y.length y := by rw [hA1]; exact hr
     rw [← hyl, ← hA1, ← hc3] at hsl
     have HRY := Aside0.mk hr
     have hl1 : (0 < l0.length) = True := eq_true (by omega)
     have hl2 : (1 ≤ l0.length) = True := eq_true (by omega)
     replace c1 := eq_true c1
     replace c2 := eq_true c2
     clear hr hy hyl hA1 hc3 hi0 hsz
     go_upto_block 0 with (first
      | ((with_reducible refine gate_dst (N := 6) rfl ?_); refine box_event ?hg (N := 6) ?hd (cs := #[.int .i64 0, .int .i64 0]) (t := 151) ?hr ?_; (case hd => rfl); (case hg => rfl); (case hr => first | (go_simp; done) | (go_simp; rfl)); intro gq hg w5 hbox hb; have F1 := Aside0.mk (F.out.push hg hbox hb); clear F hbox hb hg; have F := F1; clear F1; clear hx0 hx1)
      | ((with_reducible refine gate_dst (N := 7) rfl ?_); refine box_event ?hg (N := 7) ?hd (cs := #[.int .i64 0, .int .i64 0]) (t := 95) ?hr ?_; (case hd => rfl); (case hg => rfl); (case hr => first | (go_simp; done) | (go_simp; rfl)); intro gt hg w6 hbox hb; have F1 := Aside0.mk (F.out.push hg hbox hb); clear F hbox hb hg; have F := F1; clear F1; obtain ⟨gqc0, gqc1, gqf0, gqf1⟩ := F.out.c2 (i := 2) rfl)
      | ((with_reducible refine gate_store (t := 151) (p := 6) rfl ?_); refine store_event (t := 151) (p := 6) (v := ?vo_w7) (w1 := put2 w6 gq (.int .i64 e0) (.int .i64 e1)) ?hg ?ho ?hn ?hr ?_; (case ho => rfl); (case hg => rfl); (case hn => rfl); (case hr => unfold put2; first | (go_simp; done) | (go_simp; rfl)); intro w7 hw; have F1 := Aside0.mk (F.out.put2 (i := 2) rfl (.int .i64 e0) (.int .i64 e1)); rw [← hw] at F1; clear gqc0 gqc1 gqf0 gqf1; clear F hw; have F := F1; clear F1; obtain ⟨gtc0, gtc1, gtf0, gtf1⟩ := F.out.c2 (i := 3) rfl)
      | ((with_reducible refine gate_store (t := 95) (p := 7) rfl ?_); refine store_event (t := 95) (p := 7) (v := ?vo_w8) (w1 := put2 w7 gt (.int .i64 0) (.int .i64 1)) ?hg ?ho ?hn ?hr ?_; (case ho => rfl); (case hg => rfl); (case hn => rfl); (case hr => unfold put2; first | (go_simp; done) | (go_simp; rfl)); intro w8 hw; have F1 := Aside0.mk (F.out.put2 (i := 3) rfl (.int .i64 0) (.int .i64 1)); rw [← hw] at F1; clear gtc0 gtc1 gtf0 gtf1; clear F hw; have F := F1; clear F1))
     (try simp only [Act.put, List.setIfInBounds_toArray, List.set_cons_zero, List.set_cons_succ])
     go_cut [] (fun wc => ∃ (kq : Nat) (m0 m1 tn td : Int), Aside0 (impl_TickAt.j2 kq a1_0 a1_1 m0 m1 tn td = some (r1, r2, r3)) ∧ Aside0 (Fr w wc [(gm, .cells #[.int .i64 a1_0, .int .i64 a1_1] 95 (0, 0)), (gr, .cells #[.int .i64 0, .int .i64 0] 95 (0, 0)), (gq, .cells #[.int .i64 m0, .int .i64 m1] 151 (0, 0)), (gt, .cells #[.int .i64 tn, .int .i64 td] 95 (0, 0))]))
     case first =>
      go_wp2
      go_loopg [41] kj (fun kq v41 w' => ∃ (x m0 m1 tn td : Int), v41 = .int .i64 x ∧ Aside0 (impl_TickAt.l0 kq l0 y (y.length : Int) x a1_0 a1_1 m0 m1 tn td = some (r1, r2, r3)) ∧ Aside0 (Fr w w' [(gm, .cells #[.int .i64 a1_0, .int .i64 a1_1] 95 (0, 0)), (gr, .cells #[.int .i64 0, .int .i64 0] 95 (0, 0)), (gq, .cells #[.int .i64 m0, .int .i64 m1] 151 (0, 0)), (gt, .cells #[.int .i64 tn, .int .i64 td] 95 (0, 0))]))
      case atStart => exact ⟨0, e0, e1, 0, 1, (by first | rfl | (simp; done) | (simp [*]; done)), HA, F⟩
      case round =>
       clear HA F c1 c2 hl1 hl2 hsl
       obtain ⟨x, m0, m1, tn, td, rfl, HA, F⟩ := hrel
       cases gk with
       | zero => exact absurd HA.out (by simp [impl_TickAt.l0])
       | succ k2 =>
        have H := HA.out
        clear HA
        simp only [impl_TickAt.l0] at H
        by_cases c1 : x < (y.length : Int)
        ·
         rw [if_pos c1] at H
         by_cases c2 : 0 ≤ x
         ·
          rw [if_pos c2, if_pos c1] at H
          obtain ⟨ad, e, hx0, hx1⟩ := at_T151 HRY.out x c2 c1
          cases e
          replace hx0 := (F.out.below.cell (World.block_lt_of_cell? w _ hx0)).trans hx0
          replace hx1 := (F.out.below.cell (World.block_lt_of_cell? w _ hx1)).trans hx1
          generalize (rd_T151 y x).f0 = e0 at H hx0
          generalize (rd_T151 y x).f1 = e1 at H hx1
          replace H := Option.bind_eq_some_iff.mp H
          obtain ⟨⟨t1, t2, t3⟩, B_, H⟩ := H
          have A2 := Aside0.mk B_
          clear B_
          have HA := Aside0.mk H
          have cb1 : decide (x < (y.length : Int)) = true := decide_eq_true c1
          replace c1 := eq_true c1
          replace c2 := eq_true c2
          clear H
          go_upto_region 8 with (first
           | ((with_reducible refine gate_dst (N := 9) rfl ?_); refine box_event ?hg (N := 9) ?hd (cs := #[.int .i64 0, .int .i64 0]) (t := 151) ?hr ?_; (case hd => rfl); (case hg => rfl); (case hr => first | (go_simp; done) | (go_simp; rfl)); intro ge hg w9 hbox hb; have F1 := Aside0.mk (F.out.push hg hbox hb); clear F hbox hb hg; have F := F1; clear F1; obtain ⟨gec0, gec1, gef0, gef1⟩ := F.out.c2 (i := 4) rfl; clear hx0 hx1)
           | ((with_reducible refine gate_store (t := 151) (p := 9) rfl ?_); refine store_event (t := 151) (p := 9) (v := ?vo_w10) (w1 := put2 w9 ge (.int .i64 e0) (.int .i64 e1)) ?hg ?ho ?hn ?hr ?_; (case ho => rfl); (case hg => rfl); (case hn => rfl); (case hr => unfold put2; first | (go_simp; done) | (go_simp; rfl)); intro w10 hw; have F1 := Aside0.mk (F.out.put2 (i := 4) rfl (.int .i64 e0) (.int .i64 e1)); rw [← hw] at F1; clear gec0 gec1 gef0 gef1; clear F hw; have F := F1; clear F1; obtain ⟨gec0, gec1, gef0, gef1⟩ := F.out.c2 (i := 4) rfl)
           | (go_at_call 57; (with_reducible refine (impl_TimeOf.calls k2 _ c0 l0 e0 t1 t2 t3 _ ?s1 HC0.out A2.out).mono ?_); (case s1 => exact Kd.C_below HR0.out F.out.below); rintro e w11 ⟨rfl, hb⟩; have F1 := Aside0.mk (F.out.step hb); clear gec0 gec1 gef0 gef1; clear F hb; have F := F1; clear F1)
           | ((with_reducible refine gate_dst (N := 10) rfl ?_); refine box_event ?hg (N := 10) ?hd (cs := #[.int .i64 0, .int .i64 0]) (t := 95) ?hr ?_; (case hd => rfl); (case hg => rfl); (case hr => first | (go_simp; done) | (go_simp; rfl)); intro go hg w12 hbox hb; have F1 := Aside0.mk (F.out.push hg hbox hb); clear F hbox hb hg; have F := F1; clear F1; obtain ⟨goc0, goc1, gof0, gof1⟩ := F.out.c2 (i := 5) rfl)
           | ((with_reducible refine gate_store (t := 95) (p := 10) rfl ?_); refine store_event (t := 95) (p := 10) (v := ?vo_w13) (w1 := put2 w12 go (.int .i64 t1) (.int .i64 t2)) ?hg ?ho ?hn ?hr ?_; (case ho => rfl); (case hg => rfl); (case hn => rfl); (case hr => unfold put2; first | (go_simp; done) | (go_simp; rfl)); intro w13 hw; have F1 := Aside0.mk (F.out.put2 (i := 5) rfl (.int .i64 t1) (.int .i64 t2)); rw [← hw] at F1; clear goc0 goc1 gof0 gof1; clear F hw; have F := F1; clear F1; obtain ⟨gmc0, gmc1, gmf0, gmf1⟩ := F.out.c2 (i := 0) rfl; obtain ⟨goc0, goc1, gof0, gof1⟩ := F.out.c2 (i := 5) rfl))
          have H := HA.out
          clear HA
          cases t3 with
          | false =>
           simp only [Bool.false_eq_true, if_false, Option.some.injEq, Prod.mk.injEq] at H
           obtain ⟨rfl, rfl, rfl⟩ := H
           clear gmc0 gmc1 gmf0 gmf1 goc0 goc1 gof0 gof1
           obtain ⟨grc0, grc1, grf0, grf1⟩ := F.out.c2 (i := 1) rfl
           go_wp2
           refine bodyPost_ret (results_ct rfl _ _ gr 95 #[.int .i64 0, .int .i64 0] (0, 0) _ rfl ((F.out.put2 (i := 1) rfl (.int .i64 0) (.int .i64 0)).get (i := 1) (by rfl)) hu rfl (by kernel_rfl)) rfl ?_
           exact ⟨rfl, (F.out.put2 (i := 1) rfl (.int .i64 0) (.int .i64 0)).below⟩
          | true =>
           simp only [if_true] at H
           replace H := Option.bind_eq_some_iff.mp H
           obtain ⟨t4, B_, H⟩ := H
           have A3 := Aside0.mk B_
           clear B_
           cases t4 with
           | true =>
            simp only [if_true] at H
            go_wp2_with (first
             | (go_at_call 59; (with_reducible refine (impl_LessRatio.calls k2 a1_0 a1_1 t1 t2 true _ A3.out).mono ?_); rintro e w14 ⟨rfl, hb⟩; have F1 := Aside0.mk (F.out.step hb); clear gmc0 gmc1 gmf0 gmf1 goc0 goc1 gof0 gof1; clear F hb; have F := F1; clear F1))
            go_meet
            case rel => exact ⟨k2, m0, m1, tn, td, ⟨H⟩, ⟨F.out.take 4⟩⟩
           | false =>
            simp only [Bool.false_eq_true, if_false] at H
            have HA := Aside0.mk H
            clear H
            go_wp2_with (first
             | (go_at_call 59; (with_reducible refine (impl_LessRatio.calls k2 a1_0 a1_1 t1 t2 false _ A3.out).mono ?_); rintro e w14 ⟨rfl, hb⟩; have F1 := Aside0.mk (F.out.step hb); clear gmc0 gmc1 gmf0 gmf1 goc0 goc1 gof0 gof1; clear F hb; have F := F1; clear F1))
            have F1 := Aside0.mk F.out.drew
            clear F
            have F := F1
            clear F1
            obtain ⟨p0, p1, _, _⟩ := F.out.c2 (i := 4) rfl
            obtain ⟨p2, p3, _, _⟩ := F.out.c2 (i := 5) rfl
            refine start_ (n := 4) (S := fun w' => w'.cell? ⟨ge, 0, none⟩ = some (.int .i64 e0) ∧ w'.cell? ⟨ge, 1, none⟩ = some (.int .i64 e1) ∧ w'.cell? ⟨go, 0, none⟩ = some (.int .i64 t1) ∧ w'.cell? ⟨go, 1, none⟩ = some (.int .i64 t2)) (ds := []) #[false, false, false, false] (by kernel_rfl) rfl rfl ⟨p0, p1, p2, p3⟩ (fun hHeld => ?_)
            clear p0 p1 p2 p3
            generalize w14.drew = w15 at F hHeld ⊢
            refine take_ (i := 0) (N := some 58) (v := ?_) (a' := ?_) #[true, false, false, false] rfl rfl (by kernel_rfl) (fun _ _ _ h => h) (Or.inl ⟨by rfl, ?_⟩) hHeld ?_ ?_
            rotate_left
            ·
             rintro w' ⟨s0, s1, s2, s3⟩
             go_simp
             with_reducible rfl
            rotate_left
            ·
             simp only [Act.put, List.setIfInBounds_toArray, List.set_cons_zero, List.set_cons_succ, i64_w, i32_w]
             rfl
            refine take_ (i := 1) (N := some 59) (v := ?_) (a' := ?_) #[true, true, false, false] rfl rfl (by kernel_rfl) (fun _ _ _ h => h) (Or.inl ⟨by rfl, ?_⟩) hHeld ?_ ?_
            rotate_left
            ·
             rintro w' ⟨s0, s1, s2, s3⟩
             go_simp
             with_reducible rfl
            rotate_left
            ·
             simp only [Act.put, List.setIfInBounds_toArray, List.set_cons_zero, List.set_cons_succ, i64_w, i32_w]
             rfl
            refine one_ (i := 2) (N := none) #[true, true, true, false] rfl rfl (by kernel_rfl) (by decide) (fun K hK => ?_)
            obtain ⟨gqc0, gqc1, gqf0, gqf1⟩ := F.out.c2 (i := 2) rfl
            refine skip_ (w1 := put2 w15 gq (.int .i64 e0) (.int .i64 e1)) (by rfl) rfl ?_ ?_
            ·
             unfold put2
             go_simp
             try rfl
            clear gqc0 gqc1 gqf0 gqf1
            have F1 := Aside0.mk (F.out.put2 (i := 2) rfl (.int .i64 e0) (.int .i64 e1))
            clear F
            generalize put2 w15 gq (.int .i64 e0) (.int .i64 e1) = w16 at F1 ⊢
            have F := F1
            clear F1 hHeld
            obtain ⟨p0, p1, _, _⟩ := F.out.c2 (i := 4) rfl
            obtain ⟨p2, p3, _, _⟩ := F.out.c2 (i := 5) rfl
            refine hK.out _ _ ⟨p0, p1, p2, p3⟩ (fun hHeld => ?_)
            clear hK K p0 p1 p2 p3
            refine one_ (i := 3) (N := none) #[true, true, true, true] rfl rfl (by kernel_rfl) (by decide) (fun K hK => ?_)
            obtain ⟨gtc0, gtc1, gtf0, gtf1⟩ := F.out.c2 (i := 3) rfl
            refine skip_ (w1 := put2 w16 gt (.int .i64 t1) (.int .i64 t2)) (by rfl) rfl ?_ ?_
            ·
             unfold put2
             go_simp
             try rfl
            clear gtc0 gtc1 gtf0 gtf1
            have F1 := Aside0.mk (F.out.put2 (i := 3) rfl (.int .i64 t1) (.int .i64 t2))
            clear F
            generalize put2 w16 gt (.int .i64 t1) (.int .i64 t2) = w17 at F1 ⊢
            have F := F1
            clear F1 hHeld
            obtain ⟨p0, p1, _, _⟩ := F.out.c2 (i := 4) rfl
            obtain ⟨p2, p3, _, _⟩ := F.out.c2 (i := 5) rfl
            refine hK.out _ _ ⟨p0, p1, p2, p3⟩ (fun hHeld => ?_)
            clear hK K p0 p1 p2 p3
            clear hHeld
            refine done_ (by kernel_rfl) ?_
            go_wp2
            go_roundg k2
            case measure => omega
            case rel => exact ⟨wrap64 (x + 1), e0, e1, t1, t2, (by first | rfl | (simp; done) | (simp [*]; done)), HA, ⟨F.out.take 4⟩⟩
         ·
          rw [if_neg c2] at H
          exact absurd H (by simp)
        ·
         rw [if_neg c1] at H
         have cb1 : decide (x < (y.length : Int)) = false := decide_eq_false c1
         clear c1
         have HA := Aside0.mk H
         clear H
         go_wp2
         go_meet
         case rel => exact ⟨k2, m0, m1, tn, td, HA, F⟩
     case rest =>
      clear HA F c1 c2 hl1 hl2 hsl
      obtain ⟨kq, m0, m1, tn, td, HA, F⟩ := hcut
      cases kq with
      | zero => exact absurd HA.out (by simp [impl_TickAt.j2])
      | succ k3 =>
       have H := HA.out
       clear HA
       simp only [impl_TickAt.j2] at H
       replace H := Option.bind_eq_some_iff.mp H
       obtain ⟨⟨p1, p2, p3⟩, B_, H⟩ := H
       have A1 := Aside0.mk B_
       clear B_
       replace H := Option.bind_eq_some_iff.mp H
       obtain ⟨⟨q1, q2, q3⟩, B_, H⟩ := H
       have A2 := Aside0.mk B_
       clear B_
       replace H := Option.bind_eq_some_iff.mp H
       obtain ⟨⟨s1, s2, s3⟩, B_, H⟩ := H
       have A3 := Aside0.mk B_
       clear B_
       replace H := Option.bind_eq_some_iff.mp H
       obtain ⟨⟨u1, u2, u3⟩, B_, H⟩ := H
       have A4 := Aside0.mk B_
       clear B_
       have HA := Aside0.mk H
       clear H
       obtain ⟨gmc0, gmc1, gmf0, gmf1⟩ := F.out.c2 (i := 0) rfl
       obtain ⟨gtc0, gtc1, gtf0, gtf1⟩ := F.out.c2 (i := 3) rfl
       go_upto_region 17 with (first
        | (go_at_call 120; (with_reducible refine (impl_AddRatio.calls k3 a1_0 a1_1 (wrap64 (-tn)) td p1 p2 p3 _ A1.out).mono ?_); rintro e w20 ⟨rfl, hb⟩; have F1 := Aside0.mk (F.out.step hb); clear gmc0 gmc1 gmf0 gmf1 gtc0 gtc1 gtf0 gtf1; clear F hb; have F := F1; clear F1)
        | ((with_reducible refine gate_dst (N := 12) rfl ?_); refine box_event ?hg (N := 12) ?hd (cs := #[.int .i64 0, .int .i64 0]) (t := 95) ?hr ?_; (case hd => rfl); (case hg => rfl); (case hr => first | (go_simp; done) | (go_simp; rfl)); intro g12 hg w21 hbox hb; have F1 := Aside0.mk (F.out.push hg hbox hb); clear F hbox hb hg; have F := F1; clear F1; obtain ⟨g12c0, g12c1, g12f0, g12f1⟩ := F.out.c2 (i := 4) rfl)
        | ((with_reducible refine gate_store (t := 95) (p := 12) rfl ?_); refine store_event (t := 95) (p := 12) (v := ?vo_w22) (w1 := put2 w21 g12 (.int .i64 p1) (.int .i64 p2)) ?hg ?ho ?hn ?hr ?_; (case ho => rfl); (case hg => rfl); (case hn => rfl); (case hr => unfold put2; first | (go_simp; done) | (go_simp; rfl)); intro w22 hw; have F1 := Aside0.mk (F.out.put2 (i := 4) rfl (.int .i64 p1) (.int .i64 p2)); rw [← hw] at F1; clear g12c0 g12c1 g12f0 g12f1; clear F hw; have F := F1; clear F1; obtain ⟨gqc0, gqc1, gqf0, gqf1⟩ := F.out.c2 (i := 2) rfl)
        | (go_at_call 119; (with_reducible refine (impl_MakeRatio.calls k3 m1 5000 q1 q2 q3 _ A2.out).mono ?_); rintro e w23 ⟨rfl, hb⟩; have F1 := Aside0.mk (F.out.step hb); clear gqc0 gqc1 gqf0 gqf1; clear F hb; have F := F1; clear F1)
        | ((with_reducible refine gate_dst (N := 14) rfl ?_); refine box_event ?hg (N := 14) ?hd (cs := #[.int .i64 0, .int .i64 0]) (t := 95) ?hr ?_; (case hd => rfl); (case hg => rfl); (case hr => first | (go_simp; done) | (go_simp; rfl)); intro g14 hg w24 hbox hb; have F1 := Aside0.mk (F.out.push hg hbox hb); clear F hbox hb hg; have F := F1; clear F1; obtain ⟨g14c0, g14c1, g14f0, g14f1⟩ := F.out.c2 (i := 5) rfl)
        | ((with_reducible refine gate_store (t := 95) (p := 14) rfl ?_); refine store_event (t := 95) (p := 14) (v := ?vo_w25) (w1 := put2 w24 g14 (.int .i64 q1) (.int .i64 q2)) ?hg ?ho ?hn ?hr ?_; (case ho => rfl); (case hg => rfl); (case hn => rfl); (case hr => unfold put2; first | (go_simp; done) | (go_simp; rfl)); intro w25 hw; have F1 := Aside0.mk (F.out.put2 (i := 5) rfl (.int .i64 q1) (.int .i64 q2)); rw [← hw] at F1; clear g14c0 g14c1 g14f0 g14f1; clear F hw; have F := F1; clear F1; obtain ⟨g12c0, g12c1, g12f0, g12f1⟩ := F.out.c2 (i := 4) rfl; obtain ⟨g14c0, g14c1, g14f0, g14f1⟩ := F.out.c2 (i := 5) rfl)
        | (go_at_call 121; (with_reducible refine (impl_MulRatio.calls k3 p1 p2 q1 q2 s1 s2 s3 _ A3.out).mono ?_); rintro e w26 ⟨rfl, hb⟩; have F1 := Aside0.mk (F.out.step hb); clear g12c0 g12c1 g12f0 g12f1 g14c0 g14c1 g14f0 g14f1; clear F hb; have F := F1; clear F1)
        | ((with_reducible refine gate_dst (N := 16) rfl ?_); refine box_event ?hg (N := 16) ?hd (cs := #[.int .i64 0, .int .i64 0]) (t := 95) ?hr ?_; (case hd => rfl); (case hg => rfl); (case hr => first | (go_simp; done) | (go_simp; rfl)); intro g16 hg w27 hbox hb; have F1 := Aside0.mk (F.out.push hg hbox hb); clear F hbox hb hg; have F := F1; clear F1; obtain ⟨g16c0, g16c1, g16f0, g16f1⟩ := F.out.c2 (i := 6) rfl)
        | ((with_reducible refine gate_store (t := 95) (p := 16) rfl ?_); refine store_event (t := 95) (p := 16) (v := ?vo_w28) (w1 := put2 w27 g16 (.int .i64 s1) (.int .i64 s2)) ?hg ?ho ?hn ?hr ?_; (case ho => rfl); (case hg => rfl); (case hn => rfl); (case hr => unfold put2; first | (go_simp; done) | (go_simp; rfl)); intro w28 hw; have F1 := Aside0.mk (F.out.put2 (i := 6) rfl (.int .i64 s1) (.int .i64 s2)); rw [← hw] at F1; clear g16c0 g16c1 g16f0 g16f1; clear F hw; have F := F1; clear F1; obtain ⟨gqc0, gqc1, gqf0, gqf1⟩ := F.out.c2 (i := 2) rfl; obtain ⟨g16c0, g16c1, g16f0, g16f1⟩ := F.out.c2 (i := 6) rfl)
        | (go_at_call 120; (with_reducible refine (impl_AddRatio.calls k3 m0 1 s1 s2 u1 u2 u3 _ A4.out).mono ?_); rintro e w29 ⟨rfl, hb⟩; have F1 := Aside0.mk (F.out.step hb); clear gqc0 gqc1 gqf0 gqf1 g16c0 g16c1 g16f0 g16f1; clear F hb; have F := F1; clear F1)
        | ((with_reducible refine gate_dst (N := 18) rfl ?_); refine box_event ?hg (N := 18) ?hd (cs := #[.int .i64 0, .int .i64 0]) (t := 95) ?hr ?_; (case hd => rfl); (case hg => rfl); (case hr => first | (go_simp; done) | (go_simp; rfl)); intro g18 hg w30 hbox hb; have F1 := Aside0.mk (F.out.push hg hbox hb); clear F hbox hb hg; have F := F1; clear F1; obtain ⟨g18c0, g18c1, g18f0, g18f1⟩ := F.out.c2 (i := 7) rfl)
        | ((with_reducible refine gate_store (t := 95) (p := 18) rfl ?_); refine store_event (t := 95) (p := 18) (v := ?vo_w31) (w1 := put2 w30 g18 (.int .i64 u1) (.int .i64 u2)) ?hg ?ho ?hn ?hr ?_; (case ho => rfl); (case hg => rfl); (case hn => rfl); (case hr => unfold put2; first | (go_simp; done) | (go_simp; rfl)); intro w31 hw; have F1 := Aside0.mk (F.out.put2 (i := 7) rfl (.int .i64 u1) (.int .i64 u2)); rw [← hw] at F1; clear g18c0 g18c1 g18f0 g18f1; clear F hw; have F := F1; clear F1; obtain ⟨grc0, grc1, grf0, grf1⟩ := F.out.c2 (i := 1) rfl; obtain ⟨g18c0, g18c1, g18f0, g18f1⟩ := F.out.c2 (i := 7) rfl))
       have hne := F.out.apart (i := 1) (j := 7) rfl rfl (by decide)
       have H := HA.out
       clear HA
       cases p3 with
       | false =>
        simp only [Bool.false_eq_true, if_false, if_true, Option.some.injEq, Prod.mk.injEq] at H
        obtain ⟨rfl, rfl, rfl⟩ := H
        go_wp2
        refine bodyPost_ret (results_ct rfl _ _ gr 95 #[.int .i64 0, .int .i64 0] (0, 0) _ rfl ((F.out.put2 (i := 1) rfl (.int .i64 0) (.int .i64 0)).get (i := 1) (by rfl)) hu rfl (by kernel_rfl)) rfl ?_
        exact ⟨rfl, (F.out.put2 (i := 1) rfl (.int .i64 0) (.int .i64 0)).below⟩
       | true =>
        cases q3 with
        | false =>
         simp only [Bool.false_eq_true, if_false, if_true, Option.some.injEq, Prod.mk.injEq] at H
         obtain ⟨rfl, rfl, rfl⟩ := H
         go_wp2
         refine bodyPost_ret (results_ct rfl _ _ gr 95 #[.int .i64 0, .int .i64 0] (0, 0) _ rfl ((F.out.put2 (i := 1) rfl (.int .i64 0) (.int .i64 0)).get (i := 1) (by rfl)) hu rfl (by kernel_rfl)) rfl ?_
         exact ⟨rfl, (F.out.put2 (i := 1) rfl (.int .i64 0) (.int .i64 0)).below⟩
        | true =>
         cases s3 with
         | false =>
          simp only [Bool.false_eq_true, if_false, if_true, Option.some.injEq, Prod.mk.injEq] at H
          obtain ⟨rfl, rfl, rfl⟩ := H
          go_wp2
          refine bodyPost_ret (results_ct rfl _ _ gr 95 #[.int .i64 0, .int .i64 0] (0, 0) _ rfl ((F.out.put2 (i := 1) rfl (.int .i64 0) (.int .i64 0)).get (i := 1) (by rfl)) hu rfl (by kernel_rfl)) rfl ?_
          exact ⟨rfl, (F.out.put2 (i := 1) rfl (.int .i64 0) (.int .i64 0)).below⟩
         | true =>
          cases u3 with
          | false =>
           simp only [Bool.false_eq_true, if_false, if_true, Option.some.injEq, Prod.mk.injEq] at H
           obtain ⟨rfl, rfl, rfl⟩ := H
           go_wp2
           refine bodyPost_ret (results_ct rfl _ _ gr 95 #[.int .i64 0, .int .i64 0] (0, 0) _ rfl ((F.out.put2 (i := 1) rfl (.int .i64 0) (.int .i64 0)).get (i := 1) (by rfl)) hu rfl (by kernel_rfl)) rfl ?_
           exact ⟨rfl, (F.out.put2 (i := 1) rfl (.int .i64 0) (.int .i64 0)).below⟩
          | true =>
           simp only [Bool.false_eq_true, if_false, if_true, Option.some.injEq, Prod.mk.injEq] at H
           obtain ⟨rfl, rfl, rfl⟩ := H
           go_wp2
           refine bodyPost_ret (results_ct rfl _ _ gr 95 #[.int .i64 u1, .int .i64 u2] (0, 0) _ rfl ((F.out.put2 (i := 1) rfl (.int .i64 u1) (.int .i64 u2)).get (i := 1) (by rfl)) hu rfl (by kernel_rfl)) rfl ?_
           exact ⟨rfl, (F.out.put2 (i := 1) rfl (.int .i64 u1) (.int .i64 u2)).below⟩
    ·
     rw [if_neg c1] at H
     exact absurd H (by simp)
end Go.Proofs.Ytbhlmeghbfmgiaa.F

namespace Go.Proofs.Ytbhlmeghbfmgiaa.F
open Go.RowKit Go.Proofs.YtbhlmeghbfmgiaaW.PrintWords Go.Proofs.YtbhlmeghbfmgiaaW.PrintLast Go.Proofs.YtbhlmeghbfmgiaaW.PrintMore
attribute [local go_sem] max2_int min2_int max_two min_two max_three min_three max_four min_four
set_option linter.unusedVariables false
set_option linter.unusedSimpArgs false
def impl_RateAt.l0 : Nat → Int → Int → List (S151) → Int → Int → Option (Int)
 | 0, _, _, _, _, _ => none
 | k + 1, x1, x5, x10, x11, x12 => if x12 < x11 then (if 0 ≤ x12 then (if x12 < (x10.length : Int) then (if ((rd_T151 x10 x12).f0) ≤ x1 then (impl_RateAt.l0 k x1 ((rd_T151 x10 x12).f1) x10 x11 (wrap64 (x12 + 1))) else (impl_RateAt.l0 k x1 x5 x10 x11 (wrap64 (x12 + 1)))) else (none)) else (none)) else (some x5)
def impl_RateAt.f (k : Nat) (l0 : List (S151)) (a1 : Int) : Option (Int) := (impl_IsTempo.f k l0).bind fun t1608 => (if t1608 = true then (impl_RateAt.l0 k a1 0 l0 (l0.length : Int) 0) else (some 0))
set_option maxHeartbeats 8000000 in
set_option maxRecDepth 100000 in
theorem impl_RateAt.calls (k : Nat) (A0 : Option Addr) (c0 : Nat) (l0 : List (S151)) (a1 : Int) (r : Int) (w : World) (hr0 : Kd.C k151 w A0 l0.length l0) (hc0 : l0.length ≤ c0) (h : impl_RateAt.f k l0 a1 = some r) :
  Calls Try.prog 60 #[.slice A0 l0.length c0, .int .i64 a1] w fun e w' => e = .returned (.int .i64 r) ∧ Below w.heap.size w w' := by
 have hu151 := Try.underlying151
 have HR0 := Aside0.mk hr0
 have HC0 := Aside0.mk hc0
 clear hr0 hc0
 have HB := Aside0.mk (Below.refl w.heap.size w)
 have H : ((impl_IsTempo.f k l0).bind fun t1608 => (if t1608 = true then (impl_RateAt.l0 k a1 0 l0 (l0.length : Int) 0) else (some 0))) = some r := h
 clear h
 replace H := Option.bind_eq_some_iff.mp H
 obtain ⟨t1608, A30, H⟩ := H
 try dsimp only at H
 have A3 := Aside0.mk A30
 clear A30
 by_cases c4 : t1608 = true
 ·
  subst c4
  rw [if_pos rfl] at H
  have H' := Aside0.mk H
  clear H
  go_enter Try.func60, Try.ntmps60
  go_wp2_with (first | ((with_reducible refine gate_callee (f := 65) rfl ?_); refine goesL_ (some 9) rfl rfl Try.func65 (by kernel_rfl) rfl #[.slice A0 l0.length c0] rfl (by (try simp only [List.map_toArray, List.map_cons, List.map_nil]); first | done | rfl | (simp only [List.length_drop, List.length_take]; rfl)) ?_; (with_reducible refine (impl_IsTempo.calls k _ _ l0 true _ ?side1 ?side2 A3.out).mono ?_); (case side1 => repeat (first | exact HR0.out | (with_reducible refine Kd.C_alloc ?_ _) | (with_reducible refine Kd.C_drewN ?_ _) | (with_reducible refine Kd.C_drew ?_))); (case side2 => exact HC0.out); rintro e w5 ⟨rfl, hb⟩; refine ⟨_, rfl, ?_⟩; have n0_ := Aside0.mk (below_step (by repeat (first | (with_reducible first | exact HB.out | apply below_alloc | apply pw_below_drewN | apply below_drew1) | exact HB.out)) hb); clear HB; have HB := n0_; clear n0_; (try clear hb); (try clear hb2); (try clear hk); (try clear hi)))
  go_loopg [5, 12] k (fun kq v5 v12 w' => ∃ (x5_1 : Int) (x12_1 : Int), v5 = .int .i64 x5_1 ∧ v12 = .int .i64 x12_1 ∧ Aside0 (impl_RateAt.l0 kq a1 x5_1 l0 (l0.length : Int) x12_1 = some r) ∧ Aside0 (kq ≤ k) ∧ Aside0 (Below w.heap.size w w'))
  case atStart => exact ⟨(0), (0), (by first | rfl | (simp; done) | (simp [*]; done)), (by first | rfl | (simp; done) | (simp [*]; done)), H', ⟨Nat.le_refl _⟩, ⟨by repeat (first | (with_reducible first | exact HB.out | apply below_alloc | apply pw_below_drewN | apply below_drew1) | exact HB.out)⟩⟩
  case round =>
   clear H'
   try clear p2
   try clear c4
   obtain ⟨x5_1, x12_1, rfl, rfl, HA, HK1, HB⟩ := hrel
   cases gk with
   | zero => exact absurd HA.out (by simp [impl_RateAt.l0])
   | succ k1 =>
    have H := HA.out
    clear HA
    simp only [impl_RateAt.l0] at H
    by_cases c6 : x12_1 < (l0.length : Int)
    ·
     rw [if_pos c6] at H
     have c6b0 : decide (x12_1 < (l0.length : Int)) = true := decide_eq_true c6
     clear c6
     by_cases c7 : 0 ≤ x12_1
     ·
      rw [if_pos c7] at H
      have c7b0 : decide (0 ≤ x12_1) = true := decide_eq_true c7
      clear c7
      by_cases c8 : x12_1 < (l0.length : Int)
      ·
       rw [if_pos c8] at H
       have c8b0 : decide (x12_1 < (l0.length : Int)) = true := decide_eq_true c8
       clear c8
       by_cases c9 : ((rd_T151 l0 x12_1).f0) ≤ a1
       ·
        rw [if_pos c9] at H
        have c9b0 : decide (((rd_T151 l0 x12_1).f0) ≤ a1) = true := decide_eq_true c9
        clear c9
        have H' := Aside0.mk H
        clear H
        have p1609 : 0 ≤ (x12_1 : Int) := of_decide_eq_true (by first | (with_reducible assumption) | assumption)
        have q1609 : x12_1 < (l0.length : Int) := of_decide_eq_true (by first | (with_reducible assumption) | assumption)
        obtain ⟨ad1609, e1609, hx1609_0, hx1609_1⟩ := at_T151 HR0.out x12_1 p1609 q1609
        cases e1609
        replace hx1609_0 := (HB.out.cell (World.block_lt_of_cell? w _ hx1609_0)).trans hx1609_0
        replace hx1609_1 := (HB.out.cell (World.block_lt_of_cell? w _ hx1609_1)).trans hx1609_1
        replace p1609 := eq_true p1609
        replace q1609 := eq_true q1609
        go_wp2_with (first | ((with_reducible refine gate_dst (N := 7) rfl ?_); refine box_event ?hg (N := 7) ?hd (cs := #[.int .i64 0, .int .i64 0]) (t := 151) ?hr ?_; (case hd => rfl); (case hg => rfl); (case hr => first | (go_simp; done) | (go_simp; rfl)); intro gb1610 hg w10 hbox hb; have n0_ := Aside0.mk (below_step (by repeat (first | (with_reducible first | exact HB.out | apply below_alloc | apply pw_below_drewN | apply below_drew1) | exact HB.out)) hb); have n1_ := Aside0.mk (hbox); have n2_ := Aside0.mk ((by rw [hg]; exact (below_size (by repeat (first | (with_reducible first | exact HB.out | apply below_alloc | apply pw_below_drewN | apply below_drew1) | exact HB.out))) : w.heap.size ≤ gb1610)); have n3_ := Aside0.mk ((by rw [hg]; exact (below_size (by repeat (first | (with_reducible first | exact HB.out | apply below_alloc | apply pw_below_drewN | apply below_drew1) | exact HB.out))) : w.heap.size ≤ gb1610)); clear HB; have HB := n0_; have BK1610 := n1_; have GW1610 := n2_; have GE1610 := n3_; clear n0_ n1_ n2_ n3_; clear hb hbox hg; have hcz11_0 : w10.cell? ⟨gb1610, 0, none⟩ = some (.int .i64 0) := (blk_cell BK1610.out 0).trans rfl; have hcz11_1 : w10.cell? ⟨gb1610, 1, none⟩ = some (.int .i64 0) := (blk_cell BK1610.out 1).trans rfl; have hfz11_0 := blk_frozen BK1610.out 0; have hfz11_1 := blk_frozen BK1610.out 1))
        go_roundg k1
        case measure => have := HK1.out; omega
        case rel => exact ⟨((rd_T151 l0 x12_1).f1), (wrap64 (x12_1 + 1)), (by first | rfl | (simp; done) | (simp [*]; done)), (by first | rfl | (simp; done) | (simp [*]; done)), H', ⟨by have := HK1.out; omega⟩, ⟨by repeat (first | (with_reducible first | exact HB.out | apply below_alloc | apply pw_below_drewN | apply below_drew1 | refine below_set ?_ GE1610.out) | exact HB.out)⟩⟩
       ·
        rw [if_neg c9] at H
        have c9b0 : decide (((rd_T151 l0 x12_1).f0) ≤ a1) = false := decide_eq_false c9
        clear c9
        have H' := Aside0.mk H
        clear H
        have p1609 : 0 ≤ (x12_1 : Int) := of_decide_eq_true (by first | (with_reducible assumption) | assumption)
        have q1609 : x12_1 < (l0.length : Int) := of_decide_eq_true (by first | (with_reducible assumption) | assumption)
        obtain ⟨ad1609, e1609, hx1609_0, hx1609_1⟩ := at_T151 HR0.out x12_1 p1609 q1609
        cases e1609
        replace hx1609_0 := (HB.out.cell (World.block_lt_of_cell? w _ hx1609_0)).trans hx1609_0
        replace hx1609_1 := (HB.out.cell (World.block_lt_of_cell? w _ hx1609_1)).trans hx1609_1
        replace p1609 := eq_true p1609
        replace q1609 := eq_true q1609
        go_wp2_with (first | ((with_reducible refine gate_dst (N := 7) rfl ?_); refine box_event ?hg (N := 7) ?hd (cs := #[.int .i64 0, .int .i64 0]) (t := 151) ?hr ?_; (case hd => rfl); (case hg => rfl); (case hr => first | (go_simp; done) | (go_simp; rfl)); intro gb1610 hg w12 hbox hb; have n0_ := Aside0.mk (below_step (by repeat (first | (with_reducible first | exact HB.out | apply below_alloc | apply pw_below_drewN | apply below_drew1) | exact HB.out)) hb); have n1_ := Aside0.mk (hbox); have n2_ := Aside0.mk ((by rw [hg]; exact (below_size (by repeat (first | (with_reducible first | exact HB.out | apply below_alloc | apply pw_below_drewN | apply below_drew1) | exact HB.out))) : w.heap.size ≤ gb1610)); have n3_ := Aside0.mk ((by rw [hg]; exact (below_size (by repeat (first | (with_reducible first | exact HB.out | apply below_alloc | apply pw_below_drewN | apply below_drew1) | exact HB.out))) : w.heap.size ≤ gb1610)); clear HB; have HB := n0_; have BK1610 := n1_; have GW1610 := n2_; have GE1610 := n3_; clear n0_ n1_ n2_ n3_; clear hb hbox hg; have hcz13_0 : w12.cell? ⟨gb1610, 0, none⟩ = some (.int .i64 0) := (blk_cell BK1610.out 0).trans rfl; have hcz13_1 : w12.cell? ⟨gb1610, 1, none⟩ = some (.int .i64 0) := (blk_cell BK1610.out 1).trans rfl; have hfz13_0 := blk_frozen BK1610.out 0; have hfz13_1 := blk_frozen BK1610.out 1))
        go_roundg k1
        case measure => have := HK1.out; omega
        case rel => exact ⟨(x5_1), (wrap64 (x12_1 + 1)), (by first | rfl | (simp; done) | (simp [*]; done)), (by first | rfl | (simp; done) | (simp [*]; done)), H', ⟨by have := HK1.out; omega⟩, ⟨by repeat (first | (with_reducible first | exact HB.out | apply below_alloc | apply pw_below_drewN | apply below_drew1 | refine below_set ?_ GE1610.out) | exact HB.out)⟩⟩
      ·
       rw [if_neg c8] at H
       exact absurd H (by simp)
     ·
      rw [if_neg c7] at H
      exact absurd H (by simp)
    ·
     rw [if_neg c6] at H
     have c6b0 : decide (x12_1 < (l0.length : Int)) = false := decide_eq_false c6
     clear c6
     obtain rfl := Option.some.inj H
     go_wp2
     go_ret
     exact ⟨by first | rfl | (simp [errW_none, errW_some] <;> rfl) | (simp [*, errW_none, errW_some] <;> rfl), by repeat (first | (with_reducible first | exact HB.out | apply below_alloc | apply pw_below_drewN | apply below_drew1) | exact HB.out)⟩
 ·
  replace c4 := Bool.eq_false_iff.mpr c4
  subst c4
  rw [if_neg (show ¬ (false = true) by decide)] at H
  obtain rfl := Option.some.inj H
  go_enter Try.func60, Try.ntmps60
  go_wp2_with (first | ((with_reducible refine gate_callee (f := 65) rfl ?_); refine goesL_ (some 9) rfl rfl Try.func65 (by kernel_rfl) rfl #[.slice A0 l0.length c0] rfl (by (try simp only [List.map_toArray, List.map_cons, List.map_nil]); first | done | rfl | (simp only [List.length_drop, List.length_take]; rfl)) ?_; (with_reducible refine (impl_IsTempo.calls k _ _ l0 false _ ?side1 ?side2 A3.out).mono ?_); (case side1 => repeat (first | exact HR0.out | (with_reducible refine Kd.C_alloc ?_ _) | (with_reducible refine Kd.C_drewN ?_ _) | (with_reducible refine Kd.C_drew ?_))); (case side2 => exact HC0.out); rintro e w14 ⟨rfl, hb⟩; refine ⟨_, rfl, ?_⟩; have n0_ := Aside0.mk (below_step (by repeat (first | (with_reducible first | exact HB.out | apply below_alloc | apply pw_below_drewN | apply below_drew1) | exact HB.out)) hb); clear HB; have HB := n0_; clear n0_; (try clear hb); (try clear hb2); (try clear hk); (try clear hi)))
  go_ret
  exact ⟨by first | rfl | (simp [errW_none, errW_some] <;> rfl) | (simp [*, errW_none, errW_some] <;> rfl), by repeat (first | (with_reducible first | exact HB.out | apply below_alloc | apply pw_below_drewN | apply below_drew1) | exact HB.out)⟩
end Go.Proofs.Ytbhlmeghbfmgiaa.F

namespace Go.Proofs.Ytbhlmeghbfmgiaa.F
open Go.RowKit Go.Proofs.YtbhlmeghbfmgiaaW.PrintWords Go.Proofs.YtbhlmeghbfmgiaaW.PrintLast Go.Proofs.YtbhlmeghbfmgiaaW.PrintMore
attribute [local go_sem] max2_int min2_int max_two min_two max_three min_three max_four min_four
set_option linter.unusedVariables false
set_option linter.unusedSimpArgs false
def spec_l1Once.f (s0_0 : List Int) (s0_1 : Int) (s0_2 : Int) (a1 : Int) : Option (Bool × Int × Int) := (spec_l1Below.f s0_0 s0_1 s0_2 a1).bind fun bt265 => (some ((bt265.1 == 0), bt265.2.1, bt265.2.2))
set_option maxHeartbeats 8000000 in
set_option maxRecDepth 100000 in
theorem spec_l1Once.calls (g : Nat) (s0_0 : List Int) (s0_1 : Int) (s0_2 : Int) (a1 : Int) (r1 : Bool) (r2 : Int) (r3 : Int) (w0 w : World) (hI : IsS157 w0 w g s0_0 s0_1 s0_2) (hB : Below w0.heap.size w0 w) (h : spec_l1Once.f s0_0 s0_1 s0_2 a1 = some (r1, r2, r3)) :
  Calls Try.prog 77 #[.pointer (some ⟨g, 0, none⟩), .int .i64 a1] w fun e w' => e = .returned (.bool r1) ∧ IsS157 w0 w' g s0_0 r2 r3 ∧ Below w0.heap.size w0 w' ∧ KeepBut w w' g none := by
 have HI0 := Aside0.mk hI
 have HK := Aside0.mk (KeepBut.refl w g none)
 have HL := Aside0.mk hB.size
 clear hI
 have HW0 := Aside0.mk hB.size
 have HB := Aside0.mk hB
 clear hB
 have H : ((spec_l1Below.f s0_0 s0_1 s0_2 a1).bind fun bt265 => (some ((bt265.1 == 0), bt265.2.1, bt265.2.2))) = some (r1, r2, r3) := h
 clear h
 replace H := Option.bind_eq_some_iff.mp H
 obtain ⟨⟨t265, t266, t267⟩, A30, H⟩ := H
 try dsimp only at H
 have A3 := Aside0.mk A30
 clear A30
 simp only [Option.some.injEq, Prod.mk.injEq] at H
 obtain ⟨rfl, rfl, rfl⟩ := H
 go_enter Try.func77, Try.ntmps77
 go_wp2_with (first | ((with_reducible refine gate_callee (f := 91) rfl ?_); refine goesL_ (some 7) rfl rfl Try.func91 (by kernel_rfl) rfl #[.pointer (some ⟨g, 0, none⟩), .int .i64 a1] rfl (by (try simp only [List.map_toArray, List.map_cons, List.map_nil]); first | done | rfl | (simp only [List.length_drop, List.length_take]; rfl)) ?_; (with_reducible refine (spec_l1Below.calls g s0_0 s0_1 s0_2 a1 t265 t266 t267 w0 _ ?side1 ?side2 A3.out).mono ?_); (case side1 => repeat (first | (with_reducible first | exact HI0.out | apply IsS157.alloc | apply IsS157.drewN | apply IsS157.drew | apply IsS157.set_1 | apply IsS157.set_2) | exact HI0.out)); (case side2 => repeat (first | (with_reducible first | exact HB.out | apply below_alloc | apply pw_below_drewN | apply below_drew1 | refine below_set ?_ (IsS157.ge HI0.out)) | exact HB.out)); rintro e w4 ⟨rfl, hi, hb, hk⟩; refine ⟨_, rfl, ?_⟩; have n0_ := Aside0.mk (KeepBut.trans (by repeat (first | (with_reducible first | exact HK.out | apply KeepBut.set_ | apply keep_drewN | apply keep_drew | apply keep_alloc) | exact HK.out)) hk (.inl rfl)); have n1_ := Aside0.mk (hb); have n2_ := Aside0.mk (hi); clear HK; clear HB; clear HI0; have HK := n0_; have HB := n1_; have HI0 := n2_; clear n0_ n1_ n2_; (try clear hb); (try clear hb2); (try clear hk); (try clear hi)))
 go_ret
 exact ⟨by first | rfl | (simp [errW_none, errW_some] <;> rfl) | (simp [*, errW_none, errW_some] <;> rfl), by repeat (first | (with_reducible first | exact HI0.out | apply IsS157.alloc | apply IsS157.drewN | apply IsS157.drew | apply IsS157.set_1 | apply IsS157.set_2) | exact HI0.out), by repeat (first | (with_reducible first | exact HB.out | apply below_alloc | apply pw_below_drewN | apply below_drew1 | refine below_set ?_ (IsS157.ge HI0.out)) | exact HB.out), by repeat (first | (with_reducible first | exact HK.out | apply KeepBut.set_ | apply keep_drewN | apply keep_drew | apply keep_alloc) | exact HK.out)⟩
end Go.Proofs.Ytbhlmeghbfmgiaa.F

namespace Go.Proofs.Ytbhlmeghbfmgiaa.F
open Go.RowKit Go.Proofs.YtbhlmeghbfmgiaaW.PrintWords Go.Proofs.YtbhlmeghbfmgiaaW.PrintLast Go.Proofs.YtbhlmeghbfmgiaaW.PrintMore
attribute [local go_sem] max2_int min2_int max_two min_two max_three min_three max_four min_four
set_option linter.unusedVariables false
set_option linter.unusedSimpArgs false
def spec_l1In.f (a0 : Int) (a1 : Int) (a2 : Int) : Option (Bool) := if a0 ≥ a1 then (some (decide (a0 ≤ a2))) else (some false)
set_option maxHeartbeats 8000000 in
set_option maxRecDepth 100000 in
theorem spec_l1In.calls (a0 : Int) (a1 : Int) (a2 : Int) (r : Bool) (w : World) (h : spec_l1In.f a0 a1 a2 = some r) :
  Calls Try.prog 110 #[.int .i64 a0, .int .i64 a1, .int .i64 a2] w fun e w' => e = .returned (.bool r) ∧ Drawn0 w w' := by
 have H : (if a0 ≥ a1 then (some (decide (a0 ≤ a2))) else (some false)) = some r := h
 clear h
 by_cases c4 : a0 ≥ a1
 ·
  rw [if_pos c4] at H
  have c4b0 : decide (a1 ≤ a0) = true := decide_eq_true c4
  clear c4
  obtain rfl := Option.some.inj H
  go_enter Try.func110, Try.ntmps110
  go_wp2
  go_ret
  exact ⟨by first | rfl | (simp; done) | (simp [*]; done), by repeat (first | exact Drawn0.refl _ | apply Drawn0.step)⟩
 ·
  rw [if_neg c4] at H
  have c4b0 : decide (a1 ≤ a0) = false := decide_eq_false c4
  clear c4
  obtain rfl := Option.some.inj H
  go_enter Try.func110, Try.ntmps110
  go_wp2
  go_ret
  exact ⟨by first | rfl | (simp; done) | (simp [*]; done), by repeat (first | exact Drawn0.refl _ | apply Drawn0.step)⟩
end Go.Proofs.Ytbhlmeghbfmgiaa.F

namespace Go.Proofs.Ytbhlmeghbfmgiaa.F
open Go.RowKit Go.Proofs.YtbhlmeghbfmgiaaW.PrintWords Go.Proofs.YtbhlmeghbfmgiaaW.PrintLast Go.Proofs.YtbhlmeghbfmgiaaW.PrintMore
attribute [local go_sem] max2_int min2_int max_two min_two max_three min_three max_four min_four
set_option linter.unusedVariables false
set_option linter.unusedSimpArgs false
def spec_l4Gcd.l0 : Nat → Int → Int → Option (Int)
 | 0, _, _ => none
 | k + 1, x0, x1 => if x1 = 0 then (some x0) else (spec_l4Gcd.l0 k x1 (Int.tmod x0 x1))
def spec_l4Gcd.f (k : Nat) (a0 : Int) (a1 : Int) : Option (Int) := spec_l4Gcd.l0 k a0 a1
set_option maxHeartbeats 8000000 in
set_option maxRecDepth 100000 in
theorem spec_l4Gcd.calls (k : Nat) (a0 : Int) (a1 : Int) (r : Int) (w : World) (h : spec_l4Gcd.f k a0 a1 = some r) :
  Calls Try.prog 155 #[.int .i64 a0, .int .i64 a1] w fun e w' => e = .returned (.int .i64 r) ∧ Drawn0 w w' := by
 have H : (spec_l4Gcd.l0 k a0 a1) = some r := h
 clear h
 have H' := Aside0.mk H
 clear H
 go_enter Try.func155, Try.ntmps155
 go_wp2
 repeat (go_quiet (fail); try go_wp2)
 go_loopg [0, 1] k (fun kq v0 v1 w' => ∃ (x0_1 : Int) (x1_1 : Int), v0 = .int .i64 x0_1 ∧ v1 = .int .i64 x1_1 ∧ Aside0 (spec_l4Gcd.l0 kq x0_1 x1_1 = some r) ∧ Aside0 (kq ≤ k) ∧ Drawn0 w w')
 case atStart => exact ⟨(a0), (a1), (by first | rfl | (simp; done) | (simp [*]; done)), (by first | rfl | (simp; done) | (simp [*]; done)), H', ⟨Nat.le_refl _⟩, by repeat (first | exact Drawn0.refl _ | apply Drawn0.step)⟩
 case round =>
  clear H'
  try clear c1
  try clear p2
  obtain ⟨x0_1, x1_1, rfl, rfl, HA, HK1, ⟨m1, rfl⟩⟩ := hrel
  cases gk with
  | zero => exact absurd HA.out (by simp [spec_l4Gcd.l0])
  | succ k1 =>
   have H := HA.out
   clear HA
   simp only [spec_l4Gcd.l0] at H
   by_cases c3 : x1_1 = 0
   ·
    rw [if_pos c3] at H
    have c3b0 : (x1_1 == 0) = true := beq_iff_eq.mpr c3
    have c3b1 : (x1_1 != 0) = false := bne_eq_false_iff_eq.mpr c3
    clear c3
    obtain rfl := Option.some.inj H
    go_wp2
    repeat (go_quiet (fail); try go_wp2)
    go_ret
    exact ⟨by first | rfl | (simp; done) | (simp [*]; done), by repeat (first | exact Drawn0.refl _ | apply Drawn0.step)⟩
   ·
    rw [if_neg c3] at H
    have c3b0 : (x1_1 == 0) = false := beq_eq_false_iff_ne.mpr c3
    have c3b1 : (x1_1 != 0) = true := bne_iff_ne.mpr c3
    have H' := Aside0.mk H
    clear H
    go_wp2
    repeat (go_quiet (fail); try go_wp2)
    go_roundg k1
    case measure => have := HK1.out; omega
    case rel => exact ⟨(x1_1), (Int.tmod x0_1 x1_1), (by first | rfl | (simp; done) | (simp [*]; done)), (by first | rfl | (simp; done) | (simp [*]; done)), H', ⟨by have := HK1.out; omega⟩, by repeat (first | exact Drawn0.refl _ | apply Drawn0.step)⟩
end Go.Proofs.Ytbhlmeghbfmgiaa.F

namespace Go.Proofs.Ytbhlmeghbfmgiaa.F
open Go.RowKit Go.Proofs.YtbhlmeghbfmgiaaW.PrintWords Go.Proofs.YtbhlmeghbfmgiaaW.PrintLast Go.Proofs.YtbhlmeghbfmgiaaW.PrintMore
attribute [local go_sem] max2_int min2_int max_two min_two max_three min_three max_four min_four
set_option linter.unusedVariables false
set_option linter.unusedSimpArgs false
def spec_l4Abs.f (a0 : Int) : Option (Int) := if a0 < 0 then (some (wrap64 (-a0))) else (some a0)
set_option maxHeartbeats 8000000 in
set_option maxRecDepth 100000 in
theorem spec_l4Abs.calls (a0 : Int) (r : Int) (w : World) (h : spec_l4Abs.f a0 = some r) :
  Calls Try.prog 156 #[.int .i64 a0] w fun e w' => e = .returned (.int .i64 r) ∧ Drawn0 w w' := by
 have H : (if a0 < 0 then (some (wrap64 (-a0))) else (some a0)) = some r := h
 clear h
 by_cases c2 : a0 < 0
 ·
  rw [if_pos c2] at H
  have c2b0 : decide (a0 < 0) = true := decide_eq_true c2
  clear c2
  obtain rfl := Option.some.inj H
  go_enter Try.func156, Try.ntmps156
  go_wp2
  go_ret
  exact ⟨by first | rfl | (simp; done) | (simp [*]; done), by repeat (first | exact Drawn0.refl _ | apply Drawn0.step)⟩
 ·
  rw [if_neg c2] at H
  have c2b0 : decide (a0 < 0) = false := decide_eq_false c2
  clear c2
  obtain rfl := Option.some.inj H
  go_enter Try.func156, Try.ntmps156
  go_wp2
  go_ret
  exact ⟨by first | rfl | (simp; done) | (simp [*]; done), by repeat (first | exact Drawn0.refl _ | apply Drawn0.step)⟩
end Go.Proofs.Ytbhlmeghbfmgiaa.F

namespace Go.Proofs.Ytbhlmeghbfmgiaa.F
open Go.RowKit Go.Proofs.YtbhlmeghbfmgiaaW.PrintWords Go.Proofs.YtbhlmeghbfmgiaaW.PrintLast Go.Proofs.YtbhlmeghbfmgiaaW.PrintMore
attribute [local go_sem] max2_int min2_int max_two min_two max_three min_three max_four min_four
set_option linter.unusedVariables false
set_option linter.unusedSimpArgs false
def spec_IsRatio.f (k : Nat) (a0_0 : Int) (a0_1 : Int) : Option (Bool) := (spec_l1In.f a0_1 1 1000000).bind fun t675 => (if t675 = true then ((spec_l1In.f a0_0 (-1000000000) 1000000000).bind fun t676 => (if t676 = true then ((spec_l4Abs.f a0_0).bind fun t677 => ((spec_l4Gcd.f k t677 a0_1).bind fun t678 => (some (t678 == 1)))) else (some false))) else (some false))
set_option maxHeartbeats 8000000 in
set_option maxRecDepth 100000 in
theorem spec_IsRatio.calls (k : Nat) (a0_0 : Int) (a0_1 : Int) (r : Bool) (w : World) (h : spec_IsRatio.f k a0_0 a0_1 = some r) :
  Calls Try.prog 146 #[.agg #[.int .i64 a0_0, .int .i64 a0_1]] w fun e w' => e = .returned (.bool r) ∧ Below w.heap.size w w' := by
 have hu95 := Try.underlying95
 have HB := Aside0.mk (Below.refl w.heap.size w)
 have H : ((spec_l1In.f a0_1 1 1000000).bind fun t675 => (if t675 = true then ((spec_l1In.f a0_0 (-1000000000) 1000000000).bind fun t676 => (if t676 = true then ((spec_l4Abs.f a0_0).bind fun t677 => ((spec_l4Gcd.f k t677 a0_1).bind fun t678 => (some (t678 == 1)))) else (some false))) else (some false))) = some r := h
 clear h
 replace H := Option.bind_eq_some_iff.mp H
 obtain ⟨t675, A20, H⟩ := H
 try dsimp only at H
 have A2 := Aside0.mk A20
 clear A20
 by_cases c3 : t675 = true
 ·
  subst c3
  rw [if_pos rfl] at H
  replace H := Option.bind_eq_some_iff.mp H
  obtain ⟨t676, A40, H⟩ := H
  try dsimp only at H
  have A4 := Aside0.mk A40
  clear A40
  by_cases c5 : t676 = true
  ·
   subst c5
   rw [if_pos rfl] at H
   replace H := Option.bind_eq_some_iff.mp H
   obtain ⟨t677, A60, H⟩ := H
   try dsimp only at H
   have A6 := Aside0.mk A60
   clear A60
   replace H := Option.bind_eq_some_iff.mp H
   obtain ⟨t678, A70, H⟩ := H
   try dsimp only at H
   have A7 := Aside0.mk A70
   clear A70
   obtain rfl := Option.some.inj H
   go_enter Try.func146, Try.ntmps146
   go_wp2_with (first | ((with_reducible refine gate_dst (N := 1) rfl ?_); refine box_event ?hg (N := 1) ?hd (cs := #[.int .i64 a0_0, .int .i64 a0_1]) (t := 95) ?hr ?_; (case hd => rfl); (case hg => rfl); (case hr => first | (go_simp; done) | (go_simp; rfl)); intro gb674 hg w8 hbox hb; have n0_ := Aside0.mk (below_step (by repeat (first | (with_reducible first | exact HB.out | apply below_alloc | apply pw_below_drewN | apply below_drew1) | exact HB.out)) hb); have n1_ := Aside0.mk (hbox); have n2_ := Aside0.mk ((by rw [hg]; exact (below_size (by repeat (first | (with_reducible first | exact HB.out | apply below_alloc | apply pw_below_drewN | apply below_drew1) | exact HB.out))) : w.heap.size ≤ gb674)); have n3_ := Aside0.mk ((by rw [hg]; exact (below_size (by repeat (first | (with_reducible first | exact HB.out | apply below_alloc | apply pw_below_drewN | apply below_drew1) | exact HB.out))) : w.heap.size ≤ gb674)); clear HB; have HB := n0_; have BK674 := n1_; have GW674 := n2_; have GE674 := n3_; clear n0_ n1_ n2_ n3_; clear hb hbox hg; have hcz9_0 : w8.cell? ⟨gb674, 0, none⟩ = some (.int .i64 a0_0) := (blk_cell BK674.out 0).trans rfl; have hcz9_1 : w8.cell? ⟨gb674, 1, none⟩ = some (.int .i64 a0_1) := (blk_cell BK674.out 1).trans rfl; have hfz9_0 := blk_frozen BK674.out 0; have hfz9_1 := blk_frozen BK674.out 1) | (go_at_call 110; (with_reducible refine (spec_l1In.calls a0_1 1 1000000 true _ A2.out).mono ?_); rintro e w' ⟨rfl, ⟨nd, rfl⟩⟩; (try first | exact ⟨rfl, _, World.drewN_drewN _ _ _⟩ | exact ⟨rfl, _, Eq.trans (World.drewN_drewN _ _ _) (congrArg (World.drewN _) (Nat.add_assoc _ _ _))⟩)) | (go_at_call 110; (with_reducible refine (spec_l1In.calls a0_0 (-1000000000) 1000000000 true _ A4.out).mono ?_); rintro e w' ⟨rfl, ⟨nd, rfl⟩⟩; (try first | exact ⟨rfl, _, World.drewN_drewN _ _ _⟩ | exact ⟨rfl, _, Eq.trans (World.drewN_drewN _ _ _) (congrArg (World.drewN _) (Nat.add_assoc _ _ _))⟩)) | (go_at_call 156; (with_reducible refine (spec_l4Abs.calls a0_0 t677 _ A6.out).mono ?_); rintro e w' ⟨rfl, ⟨nd, rfl⟩⟩; (try first | exact ⟨rfl, _, World.drewN_drewN _ _ _⟩ | exact ⟨rfl, _, Eq.trans (World.drewN_drewN _ _ _) (congrArg (World.drewN _) (Nat.add_assoc _ _ _))⟩)) | (go_at_call 155; (with_reducible refine (spec_l4Gcd.calls k t677 a0_1 t678 _ A7.out).mono ?_); rintro e w' ⟨rfl, ⟨nd, rfl⟩⟩; (try first | exact ⟨rfl, _, World.drewN_drewN _ _ _⟩ | exact ⟨rfl, _, Eq.trans (World.drewN_drewN _ _ _) (congrArg (World.drewN _) (Nat.add_assoc _ _ _))⟩)))
   repeat (go_quiet (first | ((with_reducible refine gate_dst (N := 1) rfl ?_); refine box_event ?hg (N := 1) ?hd (cs := #[.int .i64 a0_0, .int .i64 a0_1]) (t := 95) ?hr ?_; (case hd => rfl); (case hg => rfl); (case hr => first | (go_simp; done) | (go_simp; rfl)); intro gb674 hg w8 hbox hb; have n0_ := Aside0.mk (below_step (by repeat (first | (with_reducible first | exact HB.out | apply below_alloc | apply pw_below_drewN | apply below_drew1) | exact HB.out)) hb); have n1_ := Aside0.mk (hbox); have n2_ := Aside0.mk ((by rw [hg]; exact (below_size (by repeat (first | (with_reducible first | exact HB.out | apply below_alloc | apply pw_below_drewN | apply below_drew1) | exact HB.out))) : w.heap.size ≤ gb674)); have n3_ := Aside0.mk ((by rw [hg]; exact (below_size (by repeat (first | (with_reducible first | exact HB.out | apply below_alloc | apply pw_below_drewN | apply below_drew1) | exact HB.out))) : w.heap.size ≤ gb674)); clear HB; have HB := n0_; have BK674 := n1_; have GW674 := n2_; have GE674 := n3_; clear n0_ n1_ n2_ n3_; clear hb hbox hg; have hcz9_0 : w8.cell? ⟨gb674, 0, none⟩ = some (.int .i64 a0_0) := (blk_cell BK674.out 0).trans rfl; have hcz9_1 : w8.cell? ⟨gb674, 1, none⟩ = some (.int .i64 a0_1) := (blk_cell BK674.out 1).trans rfl; have hfz9_0 := blk_frozen BK674.out 0; have hfz9_1 := blk_frozen BK674.out 1) | (go_at_call 110; (with_reducible refine (spec_l1In.calls a0_1 1 1000000 true _ A2.out).mono ?_); rintro e w' ⟨rfl, ⟨nd, rfl⟩⟩; (try first | exact ⟨rfl, _, World.drewN_drewN _ _ _⟩ | exact ⟨rfl, _, Eq.trans (World.drewN_drewN _ _ _) (congrArg (World.drewN _) (Nat.add_assoc _ _ _))⟩)) | (go_at_call 110; (with_reducible refine (spec_l1In.calls a0_0 (-1000000000) 1000000000 true _ A4.out).mono ?_); rintro e w' ⟨rfl, ⟨nd, rfl⟩⟩; (try first | exact ⟨rfl, _, World.drewN_drewN _ _ _⟩ | exact ⟨rfl, _, Eq.trans (World.drewN_drewN _ _ _) (congrArg (World.drewN _) (Nat.add_assoc _ _ _))⟩)) | (go_at_call 156; (with_reducible refine (spec_l4Abs.calls a0_0 t677 _ A6.out).mono ?_); rintro e w' ⟨rfl, ⟨nd, rfl⟩⟩; (try first | exact ⟨rfl, _, World.drewN_drewN _ _ _⟩ | exact ⟨rfl, _, Eq.trans (World.drewN_drewN _ _ _) (congrArg (World.drewN _) (Nat.add_assoc _ _ _))⟩)) | (go_at_call 155; (with_reducible refine (spec_l4Gcd.calls k t677 a0_1 t678 _ A7.out).mono ?_); rintro e w' ⟨rfl, ⟨nd, rfl⟩⟩; (try first | exact ⟨rfl, _, World.drewN_drewN _ _ _⟩ | exact ⟨rfl, _, Eq.trans (World.drewN_drewN _ _ _) (congrArg (World.drewN _) (Nat.add_assoc _ _ _))⟩))); try go_wp2_with (first | ((with_reducible refine gate_dst (N := 1) rfl ?_); refine box_event ?hg (N := 1) ?hd (cs := #[.int .i64 a0_0, .int .i64 a0_1]) (t := 95) ?hr ?_; (case hd => rfl); (case hg => rfl); (case hr => first | (go_simp; done) | (go_simp; rfl)); intro gb674 hg w8 hbox hb; have n0_ := Aside0.mk (below_step (by repeat (first | (with_reducible first | exact HB.out | apply below_alloc | apply pw_below_drewN | apply below_drew1) | exact HB.out)) hb); have n1_ := Aside0.mk (hbox); have n2_ := Aside0.mk ((by rw [hg]; exact (below_size (by repeat (first | (with_reducible first | exact HB.out | apply below_alloc | apply pw_below_drewN | apply below_drew1) | exact HB.out))) : w.heap.size ≤ gb674)); have n3_ := Aside0.mk ((by rw [hg]; exact (below_size (by repeat (first | (with_reducible first | exact HB.out | apply below_alloc | apply pw_below_drewN | apply below_drew1) | exact HB.out))) : w.heap.size ≤ gb674)); clear HB; have HB := n0_; have BK674 := n1_; have GW674 := n2_; have GE674 := n3_; clear n0_ n1_ n2_ n3_; clear hb hbox hg; have hcz9_0 : w8.cell? ⟨gb674, 0, none⟩ = some (.int .i64 a0_0) := (blk_cell BK674.out 0).trans rfl; have hcz9_1 : w8.cell? ⟨gb674, 1, none⟩ = some (.int .i64 a0_1) := (blk_cell BK674.out 1).trans rfl; have hfz9_0 := blk_frozen BK674.out 0; have hfz9_1 := blk_frozen BK674.out 1) | (go_at_call 110; (with_reducible refine (spec_l1In.calls a0_1 1 1000000 true _ A2.out).mono ?_); rintro e w' ⟨rfl, ⟨nd, rfl⟩⟩; (try first | exact ⟨rfl, _, World.drewN_drewN _ _ _⟩ | exact ⟨rfl, _, Eq.trans (World.drewN_drewN _ _ _) (congrArg (World.drewN _) (Nat.add_assoc _ _ _))⟩)) | (go_at_call 110; (with_reducible refine (spec_l1In.calls a0_0 (-1000000000) 1000000000 true _ A4.out).mono ?_); rintro e w' ⟨rfl, ⟨nd, rfl⟩⟩; (try first | exact ⟨rfl, _, World.drewN_drewN _ _ _⟩ | exact ⟨rfl, _, Eq.trans (World.drewN_drewN _ _ _) (congrArg (World.drewN _) (Nat.add_assoc _ _ _))⟩)) | (go_at_call 156; (with_reducible refine (spec_l4Abs.calls a0_0 t677 _ A6.out).mono ?_); rintro e w' ⟨rfl, ⟨nd, rfl⟩⟩; (try first | exact ⟨rfl, _, World.drewN_drewN _ _ _⟩ | exact ⟨rfl, _, Eq.trans (World.drewN_drewN _ _ _) (congrArg (World.drewN _) (Nat.add_assoc _ _ _))⟩)) | (go_at_call 155; (with_reducible refine (spec_l4Gcd.calls k t677 a0_1 t678 _ A7.out).mono ?_); rintro e w' ⟨rfl, ⟨nd, rfl⟩⟩; (try first | exact ⟨rfl, _, World.drewN_drewN _ _ _⟩ | exact ⟨rfl, _, Eq.trans (World.drewN_drewN _ _ _) (congrArg (World.drewN _) (Nat.add_assoc _ _ _))⟩))))
   go_ret
   exact ⟨by first | rfl | (simp [errW_none, errW_some] <;> rfl) | (simp [*, errW_none, errW_some] <;> rfl), by repeat (first | (with_reducible first | exact HB.out | apply below_alloc | apply pw_below_drewN | apply below_drew1 | refine below_set ?_ GE674.out) | exact HB.out)⟩
  ·
   replace c5 := Bool.eq_false_iff.mpr c5
   subst c5
   rw [if_neg (show ¬ (false = true) by decide)] at H
   obtain rfl := Option.some.inj H
   go_enter Try.func146, Try.ntmps146
   go_wp2_with (first | ((with_reducible refine gate_dst (N := 1) rfl ?_); refine box_event ?hg (N := 1) ?hd (cs := #[.int .i64 a0_0, .int .i64 a0_1]) (t := 95) ?hr ?_; (case hd => rfl); (case hg => rfl); (case hr => first | (go_simp; done) | (go_simp; rfl)); intro gb674 hg w10 hbox hb; have n0_ := Aside0.mk (below_step (by repeat (first | (with_reducible first | exact HB.out | apply below_alloc | apply pw_below_drewN | apply below_drew1) | exact HB.out)) hb); have n1_ := Aside0.mk (hbox); have n2_ := Aside0.mk ((by rw [hg]; exact (below_size (by repeat (first | (with_reducible first | exact HB.out | apply below_alloc | apply pw_below_drewN | apply below_drew1) | exact HB.out))) : w.heap.size ≤ gb674)); have n3_ := Aside0.mk ((by rw [hg]; exact (below_size (by repeat (first | (with_reducible first | exact HB.out | apply below_alloc | apply pw_below_drewN | apply below_drew1) | exact HB.out))) : w.heap.size ≤ gb674)); clear HB; have HB := n0_; have BK674 := n1_; have GW674 := n2_; have GE674 := n3_; clear n0_ n1_ n2_ n3_; clear hb hbox hg; have hcz11_0 : w10.cell? ⟨gb674, 0, none⟩ = some (.int .i64 a0_0) := (blk_cell BK674.out 0).trans rfl; have hcz11_1 : w10.cell? ⟨gb674, 1, none⟩ = some (.int .i64 a0_1) := (blk_cell BK674.out 1).trans rfl; have hfz11_0 := blk_frozen BK674.out 0; have hfz11_1 := blk_frozen BK674.out 1) | (go_at_call 110; (with_reducible refine (spec_l1In.calls a0_1 1 1000000 true _ A2.out).mono ?_); rintro e w' ⟨rfl, ⟨nd, rfl⟩⟩; (try first | exact ⟨rfl, _, World.drewN_drewN _ _ _⟩ | exact ⟨rfl, _, Eq.trans (World.drewN_drewN _ _ _) (congrArg (World.drewN _) (Nat.add_assoc _ _ _))⟩)) | (go_at_call 110; (with_reducible refine (spec_l1In.calls a0_0 (-1000000000) 1000000000 false _ A4.out).mono ?_); rintro e w' ⟨rfl, ⟨nd, rfl⟩⟩; (try first | exact ⟨rfl, _, World.drewN_drewN _ _ _⟩ | exact ⟨rfl, _, Eq.trans (World.drewN_drewN _ _ _) (congrArg (World.drewN _) (Nat.add_assoc _ _ _))⟩)))
   repeat (go_quiet (first | ((with_reducible refine gate_dst (N := 1) rfl ?_); refine box_event ?hg (N := 1) ?hd (cs := #[.int .i64 a0_0, .int .i64 a0_1]) (t := 95) ?hr ?_; (case hd => rfl); (case hg => rfl); (case hr => first | (go_simp; done) | (go_simp; rfl)); intro gb674 hg w10 hbox hb; have n0_ := Aside0.mk (below_step (by repeat (first | (with_reducible first | exact HB.out | apply below_alloc | apply pw_below_drewN | apply below_drew1) | exact HB.out)) hb); have n1_ := Aside0.mk (hbox); have n2_ := Aside0.mk ((by rw [hg]; exact (below_size (by repeat (first | (with_reducible first | exact HB.out | apply below_alloc | apply pw_below_drewN | apply below_drew1) | exact HB.out))) : w.heap.size ≤ gb674)); have n3_ := Aside0.mk ((by rw [hg]; exact (below_size (by repeat (first | (with_reducible first | exact HB.out | apply below_alloc | apply pw_below_drewN | apply below_drew1) | exact HB.out))) : w.heap.size ≤ gb674)); clear HB; have HB := n0_; have BK674 := n1_; have GW674 := n2_; have GE674 := n3_; clear n0_ n1_ n2_ n3_; clear hb hbox hg; have hcz11_0 : w10.cell? ⟨gb674, 0, none⟩ = some (.int .i64 a0_0) := (blk_cell BK674.out 0).trans rfl; have hcz11_1 : w10.cell? ⟨gb674, 1, none⟩ = some (.int .i64 a0_1) := (blk_cell BK674.out 1).trans rfl; have hfz11_0 := blk_frozen BK674.out 0; have hfz11_1 := blk_frozen BK674.out 1) | (go_at_call 110; (with_reducible refine (spec_l1In.calls a0_1 1 1000000 true _ A2.out).mono ?_); rintro e w' ⟨rfl, ⟨nd, rfl⟩⟩; (try first | exact ⟨rfl, _, World.drewN_drewN _ _ _⟩ | exact ⟨rfl, _, Eq.trans (World.drewN_drewN _ _ _) (congrArg (World.drewN _) (Nat.add_assoc _ _ _))⟩)) | (go_at_call 110; (with_reducible refine (spec_l1In.calls a0_0 (-1000000000) 1000000000 false _ A4.out).mono ?_); rintro e w' ⟨rfl, ⟨nd, rfl⟩⟩; (try first | exact ⟨rfl, _, World.drewN_drewN _ _ _⟩ | exact ⟨rfl, _, Eq.trans (World.drewN_drewN _ _ _) (congrArg (World.drewN _) (Nat.add_assoc _ _ _))⟩))); try go_wp2_with (first | ((with_reducible refine gate_dst (N := 1) rfl ?_); refine box_event ?hg (N := 1) ?hd (cs := #[.int .i64 a0_0, .int .i64 a0_1]) (t := 95) ?hr ?_; (case hd => rfl); (case hg => rfl); (case hr => first | (go_simp; done) | (go_simp; rfl)); intro gb674 hg w10 hbox hb; have n0_ := Aside0.mk (below_step (by repeat (first | (with_reducible first | exact HB.out | apply below_alloc | apply pw_below_drewN | apply below_drew1) | exact HB.out)) hb); have n1_ := Aside0.mk (hbox); have n2_ := Aside0.mk ((by rw [hg]; exact (below_size (by repeat (first | (with_reducible first | exact HB.out | apply below_alloc | apply pw_below_drewN | apply below_drew1) | exact HB.out))) : w.heap.size ≤ gb674)); have n3_ := Aside0.mk ((by rw [hg]; exact (below_size (by repeat (first | (with_reducible first | exact HB.out | apply below_alloc | apply pw_below_drewN | apply below_drew1) | exact HB.out))) : w.heap.size ≤ gb674)); clear HB; have HB := n0_; have BK674 := n1_; have GW674 := n2_; have GE674 := n3_; clear n0_ n1_ n2_ n3_; clear hb hbox hg; have hcz11_0 : w10.cell? ⟨gb674, 0, none⟩ = some (.int .i64 a0_0) := (blk_cell BK674.out 0).trans rfl; have hcz11_1 : w10.cell? ⟨gb674, 1, none⟩ = some (.int .i64 a0_1) := (blk_cell BK674.out 1).trans rfl; have hfz11_0 := blk_frozen BK674.out 0; have hfz11_1 := blk_frozen BK674.out 1) | (go_at_call 110; (with_reducible refine (spec_l1In.calls a0_1 1 1000000 true _ A2.out).mono ?_); rintro e w' ⟨rfl, ⟨nd, rfl⟩⟩; (try first | exact ⟨rfl, _, World.drewN_drewN _ _ _⟩ | exact ⟨rfl, _, Eq.trans (World.drewN_drewN _ _ _) (congrArg (World.drewN _) (Nat.add_assoc _ _ _))⟩)) | (go_at_call 110; (with_reducible refine (spec_l1In.calls a0_0 (-1000000000) 1000000000 false _ A4.out).mono ?_); rintro e w' ⟨rfl, ⟨nd, rfl⟩⟩; (try first | exact ⟨rfl, _, World.drewN_drewN _ _ _⟩ | exact ⟨rfl, _, Eq.trans (World.drewN_drewN _ _ _) (congrArg (World.drewN _) (Nat.add_assoc _ _ _))⟩))))
   go_ret
   exact ⟨by first | rfl | (simp [errW_none, errW_some] <;> rfl) | (simp [*, errW_none, errW_some] <;> rfl), by repeat (first | (with_reducible first | exact HB.out | apply below_alloc | apply pw_below_drewN | apply below_drew1 | refine below_set ?_ GE674.out) | exact HB.out)⟩
 ·
  replace c3 := Bool.eq_false_iff.mpr c3
  subst c3
  rw [if_neg (show ¬ (false = true) by decide)] at H
  obtain rfl := Option.some.inj H
  go_enter Try.func146, Try.ntmps146
  go_wp2_with (first | ((with_reducible refine gate_dst (N := 1) rfl ?_); refine box_event ?hg (N := 1) ?hd (cs := #[.int .i64 a0_0, .int .i64 a0_1]) (t := 95) ?hr ?_; (case hd => rfl); (case hg => rfl); (case hr => first | (go_simp; done) | (go_simp; rfl)); intro gb674 hg w12 hbox hb; have n0_ := Aside0.mk (below_step (by repeat (first | (with_reducible first | exact HB.out | apply below_alloc | apply pw_below_drewN | apply below_drew1) | exact HB.out)) hb); have n1_ := Aside0.mk (hbox); have n2_ := Aside0.mk ((by rw [hg]; exact (below_size (by repeat (first | (with_reducible first | exact HB.out | apply below_alloc | apply pw_below_drewN | apply below_drew1) | exact HB.out))) : w.heap.size ≤ gb674)); have n3_ := Aside0.mk ((by rw [hg]; exact (below_size (by repeat (first | (with_reducible first | exact HB.out | apply below_alloc | apply pw_below_drewN | apply below_drew1) | exact HB.out))) : w.heap.size ≤ gb674)); clear HB; have HB := n0_; have BK674 := n1_; have GW674 := n2_; have GE674 := n3_; clear n0_ n1_ n2_ n3_; clear hb hbox hg; have hcz13_0 : w12.cell? ⟨gb674, 0, none⟩ = some (.int .i64 a0_0) := (blk_cell BK674.out 0).trans rfl; have hcz13_1 : w12.cell? ⟨gb674, 1, none⟩ = some (.int .i64 a0_1) := (blk_cell BK674.out 1).trans rfl; have hfz13_0 := blk_frozen BK674.out 0; have hfz13_1 := blk_frozen BK674.out 1) | (go_at_call 110; (with_reducible refine (spec_l1In.calls a0_1 1 1000000 false _ A2.out).mono ?_); rintro e w' ⟨rfl, ⟨nd, rfl⟩⟩; (try first | exact ⟨rfl, _, World.drewN_drewN _ _ _⟩ | exact ⟨rfl, _, Eq.trans (World.drewN_drewN _ _ _) (congrArg (World.drewN _) (Nat.add_assoc _ _ _))⟩)))
  repeat (go_quiet (first | ((with_reducible refine gate_dst (N := 1) rfl ?_); refine box_event ?hg (N := 1) ?hd (cs := #[.int .i64 a0_0, .int .i64 a0_1]) (t := 95) ?hr ?_; (case hd => rfl); (case hg => rfl); (case hr => first | (go_simp; done) | (go_simp; rfl)); intro gb674 hg w12 hbox hb; have n0_ := Aside0.mk (below_step (by repeat (first | (with_reducible first | exact HB.out | apply below_alloc | apply pw_below_drewN | apply below_drew1) | exact HB.out)) hb); have n1_ := Aside0.mk (hbox); have n2_ := Aside0.mk ((by rw [hg]; exact (below_size (by repeat (first | (with_reducible first | exact HB.out | apply below_alloc | apply pw_below_drewN | apply below_drew1) | exact HB.out))) : w.heap.size ≤ gb674)); have n3_ := Aside0.mk ((by rw [hg]; exact (below_size (by repeat (first | (with_reducible first | exact HB.out | apply below_alloc | apply pw_below_drewN | apply below_drew1) | exact HB.out))) : w.heap.size ≤ gb674)); clear HB; have HB := n0_; have BK674 := n1_; have GW674 := n2_; have GE674 := n3_; clear n0_ n1_ n2_ n3_; clear hb hbox hg; have hcz13_0 : w12.cell? ⟨gb674, 0, none⟩ = some (.int .i64 a0_0) := (blk_cell BK674.out 0).trans rfl; have hcz13_1 : w12.cell? ⟨gb674, 1, none⟩ = some (.int .i64 a0_1) := (blk_cell BK674.out 1).trans rfl; have hfz13_0 := blk_frozen BK674.out 0; have hfz13_1 := blk_frozen BK674.out 1) | (go_at_call 110; (with_reducible refine (spec_l1In.calls a0_1 1 1000000 false _ A2.out).mono ?_); rintro e w' ⟨rfl, ⟨nd, rfl⟩⟩; (try first | exact ⟨rfl, _, World.drewN_drewN _ _ _⟩ | exact ⟨rfl, _, Eq.trans (World.drewN_drewN _ _ _) (congrArg (World.drewN _) (Nat.add_assoc _ _ _))⟩))); try go_wp2_with (first | ((with_reducible refine gate_dst (N := 1) rfl ?_); refine box_event ?hg (N := 1) ?hd (cs := #[.int .i64 a0_0, .int .i64 a0_1]) (t := 95) ?hr ?_; (case hd => rfl); (case hg => rfl); (case hr => first | (go_simp; done) | (go_simp; rfl)); intro gb674 hg w12 hbox hb; have n0_ := Aside0.mk (below_step (by repeat (first | (with_reducible first | exact HB.out | apply below_alloc | apply pw_below_drewN | apply below_drew1) | exact HB.out)) hb); have n1_ := Aside0.mk (hbox); have n2_ := Aside0.mk ((by rw [hg]; exact (below_size (by repeat (first | (with_reducible first | exact HB.out | apply below_alloc | apply pw_below_drewN | apply below_drew1) | exact HB.out))) : w.heap.size ≤ gb674)); have n3_ := Aside0.mk ((by rw [hg]; exact (below_size (by repeat (first | (with_reducible first | exact HB.out | apply below_alloc | apply pw_below_drewN | apply below_drew1) | exact HB.out))) : w.heap.size ≤ gb674)); clear HB; have HB := n0_; have BK674 := n1_; have GW674 := n2_; have GE674 := n3_; clear n0_ n1_ n2_ n3_; clear hb hbox hg; have hcz13_0 : w12.cell? ⟨gb674, 0, none⟩ = some (.int .i64 a0_0) := (blk_cell BK674.out 0).trans rfl; have hcz13_1 : w12.cell? ⟨gb674, 1, none⟩ = some (.int .i64 a0_1) := (blk_cell BK674.out 1).trans rfl; have hfz13_0 := blk_frozen BK674.out 0; have hfz13_1 := blk_frozen BK674.out 1) | (go_at_call 110; (with_reducible refine (spec_l1In.calls a0_1 1 1000000 false _ A2.out).mono ?_); rintro e w' ⟨rfl, ⟨nd, rfl⟩⟩; (try first | exact ⟨rfl, _, World.drewN_drewN _ _ _⟩ | exact ⟨rfl, _, Eq.trans (World.drewN_drewN _ _ _) (congrArg (World.drewN _) (Nat.add_assoc _ _ _))⟩))))
  go_ret
  exact ⟨by first | rfl | (simp [errW_none, errW_some] <;> rfl) | (simp [*, errW_none, errW_some] <;> rfl), by repeat (first | (with_reducible first | exact HB.out | apply below_alloc | apply pw_below_drewN | apply below_drew1 | refine below_set ?_ GE674.out) | exact HB.out)⟩
end Go.Proofs.Ytbhlmeghbfmgiaa.F

namespace Go.Proofs.Ytbhlmeghbfmgiaa.F
open Go.RowKit Go.Proofs.YtbhlmeghbfmgiaaW.PrintWords Go.Proofs.YtbhlmeghbfmgiaaW.PrintLast Go.Proofs.YtbhlmeghbfmgiaaW.PrintMore
attribute [local go_sem] max2_int min2_int max_two min_two max_three min_three max_four min_four
set_option linter.unusedVariables false
set_option linter.unusedSimpArgs false
mutual
def spec_MakeRatio.j0 : Nat → Int → Int → Bool → Option (Int × Int × Bool)
 | 0, _, _, _ => none
 | k + 1, x0, x1, x26 => if x26 = true then (some (0, 0, false)) else (if x1 < 0 then (spec_MakeRatio.j1 k (wrap64 (-x0)) (wrap64 (-x1))) else (spec_MakeRatio.j1 k x0 x1))
def spec_MakeRatio.j1 : Nat → Int → Int → Option (Int × Int × Bool)
 | 0, _, _ => none
 | k + 1, x0, x1 => (spec_l4Abs.f x0).bind fun t682 => ((spec_l4Gcd.f k t682 x1).bind fun t683 => (if t683 = 0 then (none) else ((spec_IsRatio.f k (wrap64 (Int.tdiv x0 t683)) (wrap64 (Int.tdiv x1 t683))).bind fun t685 => (if t685 = true then (some (wrap64 (Int.tdiv x0 t683), wrap64 (Int.tdiv x1 t683), true)) else (some (0, 0, false))))))
end
def spec_MakeRatio.f (k : Nat) (a0 : Int) (a1 : Int) : Option (Int × Int × Bool) := (spec_l1In.f a0 (-1000000000000000) 1000000000000000).bind fun t680 => (if t680 = true then ((spec_l1In.f a1 (-1000000000000000) 1000000000000000).bind fun t681 => (if t681 = true then (spec_MakeRatio.j0 k a0 a1 (a1 == 0)) else (spec_MakeRatio.j0 k a0 a1 true))) else (spec_MakeRatio.j0 k a0 a1 true))
def spec_MakeRatio.T8 : Bool × List (List Nat × List Nat) := (true, [([], []), ([], []), ([0, 1], [0, 1]), ([], []), ([], []), ([3, 4], [3, 4]), ([2, 5], [2, 5]), ([], []), ([7, 6, 0, 1, 2, 3, 4, 5, 6, 7], [6, 7])])
def spec_MakeRatio.B8 : List Nat := [0, 0, 3, 0, 0, 24, 63, 0, 255]
theorem spec_MakeRatio.tab8 : rtab .any (opsOf Try.f122 8) = spec_MakeRatio.T8 := by kernel_rfl
theorem spec_MakeRatio.bits8 : waitsOk spec_MakeRatio.T8.2 spec_MakeRatio.B8 = true := by kernel_rfl
set_option maxHeartbeats 8000000 in
set_option maxRecDepth 100000 in
theorem spec_MakeRatio.calls (k : Nat) (a0 : Int) (a1 : Int) (r1 : Int) (r2 : Int) (r3 : Bool) (w : World) (h : spec_MakeRatio.f k a0 a1 = some (r1, r2, r3)) :
  Calls Try.prog 122 #[.int .i64 a0, .int .i64 a1] w fun e w' => e = .returned (.tuple #[.agg #[.int .i64 r1, .int .i64 r2], .bool r3]) ∧ Below w.heap.size w w' := by
 have hu95 := Try.underlying95
 have HB := Aside0.mk (Below.refl w.heap.size w)
 have H : ((spec_l1In.f a0 (-1000000000000000) 1000000000000000).bind fun t680 => (if t680 = true then ((spec_l1In.f a1 (-1000000000000000) 1000000000000000).bind fun t681 => (if t681 = true then (spec_MakeRatio.j0 k a0 a1 (a1 == 0)) else (spec_MakeRatio.j0 k a0 a1 true))) else (spec_MakeRatio.j0 k a0 a1 true))) = some (r1, r2, r3) := h
 clear h
 have HC3 := Aside0.mk H
 clear H
 go_enter Try.func122, Try.ntmps122
 go_upto_region 2 with (first | ((with_reducible refine gate_dst (N := 4) rfl ?_); refine box_event ?hg (N := 4) ?hd (cs := #[.int .i64 0, .int .i64 0]) (t := 95) ?hr ?_; (case hd => rfl); (case hg => rfl); (case hr => first | (go_simp; done) | (go_simp; rfl)); intro gb679 hg w4 hbox hb; have n0_ := Aside0.mk (below_step (by repeat (first | (with_reducible first | exact HB.out | apply below_alloc | apply pw_below_drewN | apply below_drew1) | exact HB.out)) hb); have n1_ := Aside0.mk (hbox); have n2_ := Aside0.mk ((by rw [hg]; exact (below_size (by repeat (first | (with_reducible first | exact HB.out | apply below_alloc | apply pw_below_drewN | apply below_drew1) | exact HB.out))) : w.heap.size ≤ gb679)); have n3_ := Aside0.mk ((by rw [hg]; exact (below_size (by repeat (first | (with_reducible first | exact HB.out | apply below_alloc | apply pw_below_drewN | apply below_drew1) | exact HB.out))) : w.heap.size ≤ gb679)); clear HB; have HB := n0_; have BK679 := n1_; have GW679 := n2_; have GE679 := n3_; clear n0_ n1_ n2_ n3_; clear hb hbox hg))
 (try simp only [Act.put, List.setIfInBounds_toArray, List.set_cons_zero, List.set_cons_succ])
 go_cut [26] (fun v26 wc => ∃ (kq : Nat) (x26_2 : Bool), v26 = .bool x26_2 ∧ Aside0 (spec_MakeRatio.j0 kq a0 a1 x26_2 = some (r1, r2, r3)) ∧ Aside0 (kq ≤ k) ∧ Aside0 (wc.heap[gb679]? = some (.cells #[.int .i64 0, .int .i64 0] 95 (0, 0))) ∧ Aside0 (Below w.heap.size w wc))
 case first =>
  have H := HC3.out
  clear HC3
  replace H := Option.bind_eq_some_iff.mp H
  obtain ⟨t680, A50, H⟩ := H
  try dsimp only at H
  have A5 := Aside0.mk A50
  clear A50
  by_cases c6 : t680 = true
  ·
   subst c6
   rw [if_pos rfl] at H
   replace H := Option.bind_eq_some_iff.mp H
   obtain ⟨t681, A70, H⟩ := H
   try dsimp only at H
   have A7 := Aside0.mk A70
   clear A70
   by_cases c8 : t681 = true
   ·
    subst c8
    rw [if_pos rfl] at H
    have H' := Aside0.mk H
    clear H
    go_wp2_with (first | ((with_reducible refine gate_callee (f := 110) rfl ?_); refine goesL_ (some 13) rfl rfl Try.func110 (by kernel_rfl) rfl #[.int .i64 a0, .int .i64 (-1000000000000000), .int .i64 1000000000000000] rfl (by (try simp only [List.map_toArray, List.map_cons, List.map_nil]); first | done | rfl | (simp only [List.length_drop, List.length_take]; rfl)) ?_; (with_reducible refine (spec_l1In.calls a0 (-1000000000000000) 1000000000000000 true _ A5.out).mono ?_); rintro e w' ⟨rfl, ⟨nd, rfl⟩⟩; refine ⟨_, rfl, ?_⟩) | (go_at_call 110; (with_reducible refine (spec_l1In.calls a1 (-1000000000000000) 1000000000000000 true _ A7.out).mono ?_); rintro e w' ⟨rfl, ⟨nd, rfl⟩⟩))
    go_meet
    case rel => exact ⟨_, ((a1 == 0)), (by first | rfl | (simp; done) | (simp [*]; done)), H', ⟨by first | omega | exact Nat.le_refl _⟩, ⟨by (with_reducible repeat (first | refine blk_drewN ?_ _ | refine blk_drew ?_ | refine blk_alloc ?_ _)); exact BK679.out⟩, ⟨by repeat (first | (with_reducible first | exact HB.out | apply below_alloc | apply pw_below_drewN | apply below_drew1 | refine below_set ?_ GE679.out) | exact HB.out)⟩⟩
   ·
    replace c8 := Bool.eq_false_iff.mpr c8
    subst c8
    rw [if_neg (show ¬ (false = true) by decide)] at H
    have H' := Aside0.mk H
    clear H
    go_wp2_with (first | ((with_reducible refine gate_callee (f := 110) rfl ?_); refine goesL_ (some 13) rfl rfl Try.func110 (by kernel_rfl) rfl #[.int .i64 a0, .int .i64 (-1000000000000000), .int .i64 1000000000000000] rfl (by (try simp only [List.map_toArray, List.map_cons, List.map_nil]); first | done | rfl | (simp only [List.length_drop, List.length_take]; rfl)) ?_; (with_reducible refine (spec_l1In.calls a0 (-1000000000000000) 1000000000000000 true _ A5.out).mono ?_); rintro e w' ⟨rfl, ⟨nd, rfl⟩⟩; refine ⟨_, rfl, ?_⟩) | (go_at_call 110; (with_reducible refine (spec_l1In.calls a1 (-1000000000000000) 1000000000000000 false _ A7.out).mono ?_); rintro e w' ⟨rfl, ⟨nd, rfl⟩⟩))
    go_meet
    case rel => exact ⟨_, (true), (by first | rfl | (simp; done) | (simp [*]; done)), H', ⟨by first | omega | exact Nat.le_refl _⟩, ⟨by (with_reducible repeat (first | refine blk_drewN ?_ _ | refine blk_drew ?_ | refine blk_alloc ?_ _)); exact BK679.out⟩, ⟨by repeat (first | (with_reducible first | exact HB.out | apply below_alloc | apply pw_below_drewN | apply below_drew1 | refine below_set ?_ GE679.out) | exact HB.out)⟩⟩
  ·
   replace c6 := Bool.eq_false_iff.mpr c6
   subst c6
   rw [if_neg (show ¬ (false = true) by decide)] at H
   have H' := Aside0.mk H
   clear H
   go_wp2_with (first | ((with_reducible refine gate_callee (f := 110) rfl ?_); refine goesL_ (some 13) rfl rfl Try.func110 (by kernel_rfl) rfl #[.int .i64 a0, .int .i64 (-1000000000000000), .int .i64 1000000000000000] rfl (by (try simp only [List.map_toArray, List.map_cons, List.map_nil]); first | done | rfl | (simp only [List.length_drop, List.length_take]; rfl)) ?_; (with_reducible refine (spec_l1In.calls a0 (-1000000000000000) 1000000000000000 false _ A5.out).mono ?_); rintro e w' ⟨rfl, ⟨nd, rfl⟩⟩; refine ⟨_, rfl, ?_⟩))
   go_meet
   case rel => exact ⟨_, (true), (by first | rfl | (simp; done) | (simp [*]; done)), H', ⟨by first | omega | exact Nat.le_refl _⟩, ⟨by (with_reducible repeat (first | refine blk_drewN ?_ _ | refine blk_drew ?_ | refine blk_alloc ?_ _)); exact BK679.out⟩, ⟨by repeat (first | (with_reducible first | exact HB.out | apply below_alloc | apply pw_below_drewN | apply below_drew1 | refine below_set ?_ GE679.out) | exact HB.out)⟩⟩
 case rest =>
  clear HC3
  try clear c1
  try clear p2
  try clear c6
  try clear c8
  obtain ⟨kq, x26_2, rfl, HA, HJ2, BK679, HB⟩ := hcut
  cases kq with
  | zero => exact absurd HA.out (by simp [spec_MakeRatio.j0])
  | succ kj2 =>
   have H := HA.out
   clear HA
   simp only [spec_MakeRatio.j0] at H
   by_cases c9 : x26_2 = true
   ·
    subst c9
    rw [if_pos rfl] at H
    simp only [Option.some.injEq, Prod.mk.injEq] at H
    obtain ⟨rfl, rfl, rfl⟩ := H
    have hcz10_0 : wc.cell? ⟨gb679, 0, none⟩ = some (.int .i64 0) := (blk_cell BK679.out 0).trans rfl
    have hcz10_1 : wc.cell? ⟨gb679, 1, none⟩ = some (.int .i64 0) := (blk_cell BK679.out 1).trans rfl
    have hfz10_0 := blk_frozen BK679.out 0
    have hfz10_1 := blk_frozen BK679.out 1
    go_wp2
    refine bodyPost_ret (results_ct rfl _ _ gb679 95 #[.int .i64 0, .int .i64 0] (0, 0) _ rfl (by (with_reducible repeat (first | refine blk_drewN ?_ _ | refine blk_drew ?_ | refine blk_alloc ?_ _)); refine blk_put (cs := #[.int .i64 0, .int .i64 0]) ?_ 1 _ rfl; (with_reducible repeat (first | refine blk_drewN ?_ _ | refine blk_drew ?_ | refine blk_alloc ?_ _)); refine blk_put (cs := #[.int .i64 0, .int .i64 0]) ?_ 0 _ rfl; (with_reducible repeat (first | refine blk_drewN ?_ _ | refine blk_drew ?_ | refine blk_alloc ?_ _)); exact BK679.out) Try.underlying95 rfl (by kernel_rfl)) rfl ?_
    exact ⟨by first | rfl | (simp [errW_none, errW_some] <;> rfl) | (simp [*, errW_none, errW_some] <;> rfl), by repeat (first | (with_reducible first | exact HB.out | apply below_alloc | apply pw_below_drewN | apply below_drew1 | refine below_set ?_ GE679.out) | exact HB.out)⟩
   ·
    replace c9 := Bool.eq_false_iff.mpr c9
    subst c9
    rw [if_neg (show ¬ (false = true) by decide)] at H
    have HC11 := Aside0.mk H
    clear H
    go_upto_if 29 with (fail)
    go_cut [0, 1] (fun v0 v1 wc => ∃ (kq : Nat) (x0_10 : Int) (x1_10 : Int), v0 = .int .i64 x0_10 ∧ v1 = .int .i64 x1_10 ∧ Aside0 (spec_MakeRatio.j1 kq x0_10 x1_10 = some (r1, r2, r3)) ∧ Aside0 (kq ≤ kj2) ∧ Aside0 (wc.heap[gb679]? = some (.cells #[.int .i64 0, .int .i64 0] 95 (0, 0))) ∧ Aside0 (Below w.heap.size w wc))
    case first =>
     have H := HC11.out
     clear HC11
     by_cases c12 : a1 < 0
     ·
      rw [if_pos c12] at H
      have c12b0 : decide (a1 < 0) = true := decide_eq_true c12
      clear c12
      (first | rw [c12b0] | (simp only [i64_w, i32_w]; rw [c12b0]) | skip)
      have H' := Aside0.mk H
      clear H
      go_wp2
      go_meet
      case rel => exact ⟨_, (wrap64 (-a0)), (wrap64 (-a1)), (by first | rfl | (simp; done) | (simp [*]; done)), (by first | rfl | (simp; done) | (simp [*]; done)), H', ⟨by have := HJ2.out; first | omega | exact Nat.le_refl _⟩, ⟨by (with_reducible repeat (first | refine blk_drewN ?_ _ | refine blk_drew ?_ | refine blk_alloc ?_ _)); exact BK679.out⟩, ⟨by repeat (first | (with_reducible first | exact HB.out | apply below_alloc | apply pw_below_drewN | apply below_drew1 | refine below_set ?_ GE679.out) | exact HB.out)⟩⟩
     ·
      rw [if_neg c12] at H
      have c12b0 : decide (a1 < 0) = false := decide_eq_false c12
      clear c12
      (first | rw [c12b0] | (simp only [i64_w, i32_w]; rw [c12b0]) | skip)
      have H' := Aside0.mk H
      clear H
      go_wp2
      go_meet
      case rel => exact ⟨_, (a0), (a1), (by first | rfl | (simp; done) | (simp [*]; done)), (by first | rfl | (simp; done) | (simp [*]; done)), H', ⟨by have := HJ2.out; first | omega | exact Nat.le_refl _⟩, ⟨by (with_reducible repeat (first | refine blk_drewN ?_ _ | refine blk_drew ?_ | refine blk_alloc ?_ _)); exact BK679.out⟩, ⟨by repeat (first | (with_reducible first | exact HB.out | apply below_alloc | apply pw_below_drewN | apply below_drew1 | refine below_set ?_ GE679.out) | exact HB.out)⟩⟩
    case rest =>
     clear HC11
     try clear c1
     try clear p2
     try clear c6
     try clear p6
     try clear c8
     try clear c9
     try clear c11
     try clear c12
     try clear c12b0
     try clear hcz10_0
     try clear hcz10_1
     try clear hfz10_0
     try clear hfz10_1
     try clear p2
     obtain ⟨kq, x0_10, x1_10, rfl, rfl, HA, HJ10, BK679, HB⟩ := hcut
     cases kq with
     | zero => exact absurd HA.out (by simp [spec_MakeRatio.j1])
     | succ kj10 =>
      have H := HA.out
      clear HA
      simp only [spec_MakeRatio.j1] at H
      replace H := Option.bind_eq_some_iff.mp H
      obtain ⟨t682, A130, H⟩ := H
      try dsimp only at H
      have A13 := Aside0.mk A130
      clear A130
      replace H := Option.bind_eq_some_iff.mp H
      obtain ⟨t683, A140, H⟩ := H
      try dsimp only at H
      have A14 := Aside0.mk A140
      clear A140
      by_cases c15 : t683 = 0
      ·
       rw [if_pos c15] at H
       exact absurd H (by simp)
      ·
       rw [if_neg c15] at H
       have c15b0 : (t683 == 0) = false := beq_eq_false_iff_ne.mpr c15
       have c15b1 : (t683 != 0) = true := bne_iff_ne.mpr c15
       replace H := Option.bind_eq_some_iff.mp H
       obtain ⟨t685, A160, H⟩ := H
       try dsimp only at H
       have A16 := Aside0.mk A160
       clear A160
       by_cases c17 : t685 = true
       ·
        subst c17
        rw [if_pos rfl] at H
        simp only [Option.some.injEq, Prod.mk.injEq] at H
        obtain ⟨rfl, rfl, rfl⟩ := H
        try go_wp2_with (first | ((with_reducible refine gate_callee (f := 156) rfl ?_); refine goesL_ (some 35) rfl rfl Try.func156 (by kernel_rfl) rfl #[.int .i64 x0_10] rfl (by (try simp only [List.map_toArray, List.map_cons, List.map_nil]); first | done | rfl | (simp only [List.length_drop, List.length_take]; rfl)) ?_; (with_reducible refine (spec_l4Abs.calls x0_10 t682 _ A13.out).mono ?_); rintro e w' ⟨rfl, ⟨nd, rfl⟩⟩; refine ⟨_, rfl, ?_⟩; (try (rw [drewN_self wc]; generalize hq_ : World.drewN wc _ = wc; have n0_ : Aside0 (wc.heap[gb679]? = some (.cells #[.int .i64 0, .int .i64 0] 95 (0, 0))) := ⟨by rw [← hq_]; exact (by (with_reducible repeat (first | refine blk_drewN ?_ _ | refine blk_drew ?_ | refine blk_alloc ?_ _)); exact BK679.out)⟩; have n1_ : Aside0 (Below w.heap.size w wc) := ⟨by rw [← hq_]; exact (by repeat (first | (with_reducible first | exact HB.out | apply below_alloc | apply pw_below_drewN | apply below_drew1 | refine below_set ?_ GE679.out) | exact HB.out))⟩; clear BK679 HB hq_; have BK679 := n0_; have HB := n1_; clear n0_ n1_))) | ((with_reducible refine gate_callee (f := 155) rfl ?_); refine goesL_ (some 37) rfl rfl Try.func155 (by kernel_rfl) rfl #[.int .i64 t682, .int .i64 x1_10] rfl (by (try simp only [List.map_toArray, List.map_cons, List.map_nil]); first | done | rfl | (simp only [List.length_drop, List.length_take]; rfl)) ?_; (with_reducible refine (spec_l4Gcd.calls kj10 t682 x1_10 t683 _ A14.out).mono ?_); rintro e w' ⟨rfl, ⟨nd, rfl⟩⟩; refine ⟨_, rfl, ?_⟩; (try (rw [drewN_self wc]; generalize hq_ : World.drewN wc _ = wc; have n0_ : Aside0 (wc.heap[gb679]? = some (.cells #[.int .i64 0, .int .i64 0] 95 (0, 0))) := ⟨by rw [← hq_]; exact (by (with_reducible repeat (first | refine blk_drewN ?_ _ | refine blk_drew ?_ | refine blk_alloc ?_ _)); exact BK679.out)⟩; have n1_ : Aside0 (Below w.heap.size w wc) := ⟨by rw [← hq_]; exact (by repeat (first | (with_reducible first | exact HB.out | apply below_alloc | apply pw_below_drewN | apply below_drew1 | refine below_set ?_ GE679.out) | exact HB.out))⟩; clear BK679 HB hq_; have BK679 := n0_; have HB := n1_; clear n0_ n1_))))
        have n0_ := Aside0.mk (blk_drew BK679.out)
        have n1_ := Aside0.mk (below_drew1 HB.out)
        clear BK679
        clear HB
        have BK679 := n0_
        have HB := n1_
        clear n0_ n1_
        refine start_ (n := 9) (S := fun w' => True) (ds := []) #[false, false, false, false, false, false, false, false, false] (by kernel_rfl) rfl rfl trivial (fun hHeld => ?_); refine with_tabW spec_MakeRatio.tab8 spec_MakeRatio.bits8 (fun HT_ HW_ => ?_)
        generalize wc.drew = w18 at BK679 HB hHeld ⊢
        refine pure_ (i := 0) (N := some 38) (v := ?_) (a' := ?_) #[true, false, false, false, false, false, false, false, false] rfl rfl (any_of HT_.out (by kernel_rfl)) (fun _ _ _ h => h) (Or.inl ⟨by rfl, ?_⟩) ?_ ?_
        rotate_left
        ·
         intro w'
         go_simp
         with_reducible rfl
        rotate_left
        ·
         simp only [Act.put, List.setIfInBounds_toArray, List.set_cons_zero, List.set_cons_succ, i64_w, i32_w]
         rfl
        refine pure_ (i := 1) (N := some 39) (v := ?_) (a' := ?_) #[true, true, false, false, false, false, false, false, false] rfl rfl (any_of HT_.out (by kernel_rfl)) (fun _ _ _ h => h) (Or.inl ⟨by rfl, ?_⟩) ?_ ?_
        rotate_left
        ·
         intro w'
         go_simp
         with_reducible rfl
        rotate_left
        ·
         simp only [Act.put, List.setIfInBounds_toArray, List.set_cons_zero, List.set_cons_succ, i64_w, i32_w]
         rfl
        refine pure_ (i := 2) (N := some 40) (v := ?_) (a' := ?_) #[true, true, true, false, false, false, false, false, false] rfl rfl (any_of HT_.out (by kernel_rfl)) (fun _ _ _ h => h) (Or.inl ⟨by rfl, ?_⟩) ?_ ?_
        rotate_left
        ·
         intro w'
         go_simp
         with_reducible rfl
        rotate_left
        ·
         simp only [Act.put, List.setIfInBounds_toArray, List.set_cons_zero, List.set_cons_succ, i64_w, i32_w]
         rfl
        refine pure_ (i := 3) (N := some 41) (v := ?_) (a' := ?_) #[true, true, true, true, false, false, false, false, false] rfl rfl (any_of HT_.out (by kernel_rfl)) (fun _ _ _ h => h) (Or.inl ⟨by rfl, ?_⟩) ?_ ?_
        rotate_left
        ·
         intro w'
         go_simp
         with_reducible rfl
        rotate_left
        ·
         simp only [Act.put, List.setIfInBounds_toArray, List.set_cons_zero, List.set_cons_succ, i64_w, i32_w]
         rfl
        refine pure_ (i := 4) (N := some 42) (v := ?_) (a' := ?_) #[true, true, true, true, true, false, false, false, false] rfl rfl (any_of HT_.out (by kernel_rfl)) (fun _ _ _ h => h) (Or.inl ⟨by rfl, ?_⟩) ?_ ?_
        rotate_left
        ·
         intro w'
         go_simp
         with_reducible rfl
        rotate_left
        ·
         simp only [Act.put, List.setIfInBounds_toArray, List.set_cons_zero, List.set_cons_succ, i64_w, i32_w]
         rfl
        refine pure_ (i := 5) (N := some 43) (v := ?_) (a' := ?_) #[true, true, true, true, true, true, false, false, false] rfl rfl (any_of HT_.out (by kernel_rfl)) (fun _ _ _ h => h) (Or.inl ⟨by rfl, ?_⟩) ?_ ?_
        rotate_left
        ·
         intro w'
         go_simp
         with_reducible rfl
        rotate_left
        ·
         simp only [Act.put, List.setIfInBounds_toArray, List.set_cons_zero, List.set_cons_succ, i64_w, i32_w]
         rfl
        refine pure_ (i := 6) (N := some 44) (v := ?_) (a' := ?_) #[true, true, true, true, true, true, true, false, false] rfl rfl (any_of HT_.out (by kernel_rfl)) (fun _ _ _ h => h) (Or.inl ⟨by rfl, ?_⟩) ?_ ?_
        rotate_left
        ·
         intro w'
         go_simp
         with_reducible rfl
        rotate_left
        ·
         simp only [Act.put, List.setIfInBounds_toArray, List.set_cons_zero, List.set_cons_succ, i64_w, i32_w]
         rfl
        refine one_ (i := 7) (N := some 8) #[true, true, true, true, true, true, true, true, false] rfl rfl (one_of HT_.out (by kernel_rfl)) (by decide) (fun K hK => ?_)
        refine box_step ?hg (N := 8) ?hd (cs := #[.int .i64 0, .int .i64 0]) (t := 95) ?hr ?_; (case hd => rfl); (case hg => rfl); (case hr => first | (go_simp; done) | (go_simp; rfl))
        intro gb684 hg w19 hbox hb
        have n0_ := Aside0.mk (blk_below (g := gb679) (o := .cells #[.int .i64 0, .int .i64 0] 95 (0, 0)) (by (with_reducible repeat (first | refine blk_drewN ?_ _ | refine blk_drew ?_ | refine blk_alloc ?_ _)); exact BK679.out) hb)
        have n1_ := Aside0.mk (below_step (by repeat (first | (with_reducible first | exact HB.out | apply below_alloc | apply pw_below_drewN | apply below_drew1 | refine below_set ?_ GE679.out) | exact HB.out)) hb)
        have n2_ := Aside0.mk (hbox)
        have n3_ := Aside0.mk ((by rw [hg]; exact (below_size (by repeat (first | (with_reducible first | exact HB.out | apply below_alloc | apply pw_below_drewN | apply below_drew1 | refine below_set ?_ GE679.out) | exact HB.out))) : w.heap.size ≤ gb684))
        have n4_ := Aside0.mk ((by rw [hg]; exact (below_size (by repeat (first | (with_reducible first | exact HB.out | apply below_alloc | apply pw_below_drewN | apply below_drew1 | refine below_set ?_ GE679.out) | exact HB.out))) : w.heap.size ≤ gb684))
        have n5_ := Aside0.mk ((by rw [hg]; exact Nat.ne_of_lt (blk_lt (g := gb679) (o := .cells #[.int .i64 0, .int .i64 0] 95 (0, 0)) (by (with_reducible repeat (first | refine blk_drewN ?_ _ | refine blk_drew ?_ | refine blk_alloc ?_ _)); exact BK679.out)) : gb679 ≠ gb684))
        have n6_ := Aside0.mk ((by rw [hg]; exact Nat.ne_of_gt (blk_lt (g := gb679) (o := .cells #[.int .i64 0, .int .i64 0] 95 (0, 0)) (by (with_reducible repeat (first | refine blk_drewN ?_ _ | refine blk_drew ?_ | refine blk_alloc ?_ _)); exact BK679.out)) : gb684 ≠ gb679))
        clear BK679
        clear HB
        have BK679 := n0_
        have HB := n1_
        have BK684 := n2_
        have GW684 := n3_
        have GE684 := n4_
        have NB679_684 := n5_
        have NB684_679 := n6_
        clear n0_ n1_ n2_ n3_ n4_ n5_ n6_
        clear hb hbox hg
        refine hK.out _ _ trivial (fun hHeld => ?_)
        clear hK K
        refine norm_ (a' := ?_) ?_ ?_
        rotate_left
        ·
         show Act.put _ (some 8) _ = _
         simp only [Act.put, List.setIfInBounds_toArray, List.set_cons_zero, List.set_cons_succ, i64_w, i32_w]
         rfl
        refine one_ (i := 8) (N := none) #[true, true, true, true, true, true, true, true, true] rfl rfl (one_of HT_.out (by kernel_rfl)) (by decide) (fun K hK => ?_)
        have hs20 : w19.cell? ⟨gb684, 0, none⟩ = some (.int .i64 0) := (blk_cell BK684.out 0).trans rfl
        have hfs20 := blk_frozen BK684.out 0
        have hns20_0 := NB679_684.out
        have hms20_0 := NB684_679.out
        have hs21 : w19.cell? ⟨gb684, 1, none⟩ = some (.int .i64 0) := (blk_cell BK684.out 1).trans rfl
        have hfs21 := blk_frozen BK684.out 1
        have hns21_0 := NB679_684.out
        have hms21_0 := NB684_679.out
        refine skip_ (w1 := ?_) (by rfl) rfl ?_ ?_
        rotate_left
        ·
         go_simp
         rfl
        refine hK.out _ _ trivial (fun hHeld => ?_)
        clear hK K
        refine done_ (done_of HT_.out (by kernel_rfl)) ?_
        have hnb22 := NB684_679.out
        have hnc22 := NB679_684.out
        have hcz23_0 : w19.cell? ⟨gb684, 0, none⟩ = some (.int .i64 0) := (blk_cell BK684.out 0).trans rfl
        have hcz23_1 : w19.cell? ⟨gb684, 1, none⟩ = some (.int .i64 0) := (blk_cell BK684.out 1).trans rfl
        have hfz23_0 := blk_frozen BK684.out 0
        have hfz23_1 := blk_frozen BK684.out 1
        try go_wp2_with (first | ((with_reducible refine gate_callee (f := 146) rfl ?_); refine goesL_ (some 46) rfl rfl Try.func146 (by kernel_rfl) rfl #[.agg #[.int .i64 (wrap64 (Int.tdiv x0_10 t683)), .int .i64 (wrap64 (Int.tdiv x1_10 t683))]] rfl (by (try simp only [List.map_toArray, List.map_cons, List.map_nil]); first | done | rfl | (simp only [List.length_drop, List.length_take]; rfl)) ?_; (with_reducible refine (spec_IsRatio.calls kj10 (wrap64 (Int.tdiv x0_10 t683)) (wrap64 (Int.tdiv x1_10 t683)) true _ A16.out).mono ?_); rintro e w24 ⟨rfl, hb⟩; refine ⟨_, rfl, ?_⟩; have n0_ := Aside0.mk (blk_below (g := gb679) (o := .cells #[.int .i64 0, .int .i64 0] 95 (0, 0)) (by (with_reducible repeat (first | refine blk_drewN ?_ _ | refine blk_drew ?_ | refine blk_alloc ?_ _)); refine blk_far ?_ NB679_684.out _; (with_reducible repeat (first | refine blk_drewN ?_ _ | refine blk_drew ?_ | refine blk_alloc ?_ _)); refine blk_far ?_ NB679_684.out _; (with_reducible repeat (first | refine blk_drewN ?_ _ | refine blk_drew ?_ | refine blk_alloc ?_ _)); exact BK679.out) hb); have n1_ := Aside0.mk (blk_below (g := gb684) (o := .cells #[.int .i64 (wrap64 (Int.tdiv x0_10 t683)), .int .i64 (wrap64 (Int.tdiv x1_10 t683))] 95 (0, 0)) (by (with_reducible repeat (first | refine blk_drewN ?_ _ | refine blk_drew ?_ | refine blk_alloc ?_ _)); refine blk_put (cs := #[.int .i64 (wrap64 (Int.tdiv x0_10 t683)), .int .i64 0]) ?_ 1 _ rfl; (with_reducible repeat (first | refine blk_drewN ?_ _ | refine blk_drew ?_ | refine blk_alloc ?_ _)); refine blk_put (cs := #[.int .i64 0, .int .i64 0]) ?_ 0 _ rfl; (with_reducible repeat (first | refine blk_drewN ?_ _ | refine blk_drew ?_ | refine blk_alloc ?_ _)); exact BK684.out) hb); have n2_ := Aside0.mk (below_step (by repeat (first | (with_reducible first | exact HB.out | apply below_alloc | apply pw_below_drewN | apply below_drew1 | refine below_set ?_ GE679.out | refine below_set ?_ GE684.out) | exact HB.out)) hb); clear BK679; clear BK684; clear HB; have BK679 := n0_; have BK684 := n1_; have HB := n2_; clear n0_ n1_ n2_; (try clear hb); (try clear hb2); (try clear hk); (try clear hi); have hcz25_0 : w24.cell? ⟨gb684, 0, none⟩ = some (.int .i64 (wrap64 (Int.tdiv x0_10 t683))) := (blk_cell BK684.out 0).trans rfl; have hcz25_1 : w24.cell? ⟨gb684, 1, none⟩ = some (.int .i64 (wrap64 (Int.tdiv x1_10 t683))) := (blk_cell BK684.out 1).trans rfl; have hfz25_0 := blk_frozen BK684.out 0; have hfz25_1 := blk_frozen BK684.out 1; have hcz26_0 : w24.cell? ⟨gb679, 0, none⟩ = some (.int .i64 0) := (blk_cell BK679.out 0).trans rfl; have hcz26_1 : w24.cell? ⟨gb679, 1, none⟩ = some (.int .i64 0) := (blk_cell BK679.out 1).trans rfl; have hfz26_0 := blk_frozen BK679.out 0; have hfz26_1 := blk_frozen BK679.out 1))
        refine bodyPost_ret (results_ct rfl _ _ gb679 95 #[.int .i64 (wrap64 (Int.tdiv x0_10 t683)), .int .i64 (wrap64 (Int.tdiv x1_10 t683))] (0, 0) _ rfl (by (with_reducible repeat (first | refine blk_drewN ?_ _ | refine blk_drew ?_ | refine blk_alloc ?_ _)); refine blk_put (cs := #[.int .i64 (wrap64 (Int.tdiv x0_10 t683)), .int .i64 0]) ?_ 1 _ rfl; (with_reducible repeat (first | refine blk_drewN ?_ _ | refine blk_drew ?_ | refine blk_alloc ?_ _)); refine blk_put (cs := #[.int .i64 0, .int .i64 0]) ?_ 0 _ rfl; (with_reducible repeat (first | refine blk_drewN ?_ _ | refine blk_drew ?_ | refine blk_alloc ?_ _)); exact BK679.out) Try.underlying95 rfl (by kernel_rfl)) rfl ?_
        exact ⟨by first | rfl | (simp [errW_none, errW_some] <;> rfl) | (simp [*, errW_none, errW_some] <;> rfl), by repeat (first | (with_reducible first | exact HB.out | apply below_alloc | apply pw_below_drewN | apply below_drew1 | refine below_set ?_ GE679.out | refine below_set ?_ GE684.out) | exact HB.out)⟩
       ·
        replace c17 := Bool.eq_false_iff.mpr c17
        subst c17
        rw [if_neg (show ¬ (false = true) by decide)] at H
        simp only [Option.some.injEq, Prod.mk.injEq] at H
        obtain ⟨rfl, rfl, rfl⟩ := H
        try go_wp2_with (first | ((with_reducible refine gate_callee (f := 156) rfl ?_); refine goesL_ (some 35) rfl rfl Try.func156 (by kernel_rfl) rfl #[.int .i64 x0_10] rfl (by (try simp only [List.map_toArray, List.map_cons, List.map_nil]); first | done | rfl | (simp only [List.length_drop, List.length_take]; rfl)) ?_; (with_reducible refine (spec_l4Abs.calls x0_10 t682 _ A13.out).mono ?_); rintro e w' ⟨rfl, ⟨nd, rfl⟩⟩; refine ⟨_, rfl, ?_⟩; (try (rw [drewN_self wc]; generalize hq_ : World.drewN wc _ = wc; have n0_ : Aside0 (wc.heap[gb679]? = some (.cells #[.int .i64 0, .int .i64 0] 95 (0, 0))) := ⟨by rw [← hq_]; exact (by (with_reducible repeat (first | refine blk_drewN ?_ _ | refine blk_drew ?_ | refine blk_alloc ?_ _)); exact BK679.out)⟩; have n1_ : Aside0 (Below w.heap.size w wc) := ⟨by rw [← hq_]; exact (by repeat (first | (with_reducible first | exact HB.out | apply below_alloc | apply pw_below_drewN | apply below_drew1 | refine below_set ?_ GE679.out) | exact HB.out))⟩; clear BK679 HB hq_; have BK679 := n0_; have HB := n1_; clear n0_ n1_))) | ((with_reducible refine gate_callee (f := 155) rfl ?_); refine goesL_ (some 37) rfl rfl Try.func155 (by kernel_rfl) rfl #[.int .i64 t682, .int .i64 x1_10] rfl (by (try simp only [List.map_toArray, List.map_cons, List.map_nil]); first | done | rfl | (simp only [List.length_drop, List.length_take]; rfl)) ?_; (with_reducible refine (spec_l4Gcd.calls kj10 t682 x1_10 t683 _ A14.out).mono ?_); rintro e w' ⟨rfl, ⟨nd, rfl⟩⟩; refine ⟨_, rfl, ?_⟩; (try (rw [drewN_self wc]; generalize hq_ : World.drewN wc _ = wc; have n0_ : Aside0 (wc.heap[gb679]? = some (.cells #[.int .i64 0, .int .i64 0] 95 (0, 0))) := ⟨by rw [← hq_]; exact (by (with_reducible repeat (first | refine blk_drewN ?_ _ | refine blk_drew ?_ | refine blk_alloc ?_ _)); exact BK679.out)⟩; have n1_ : Aside0 (Below w.heap.size w wc) := ⟨by rw [← hq_]; exact (by repeat (first | (with_reducible first | exact HB.out | apply below_alloc | apply pw_below_drewN | apply below_drew1 | refine below_set ?_ GE679.out) | exact HB.out))⟩; clear BK679 HB hq_; have BK679 := n0_; have HB := n1_; clear n0_ n1_))))
        have n0_ := Aside0.mk (blk_drew BK679.out)
        have n1_ := Aside0.mk (below_drew1 HB.out)
        clear BK679
        clear HB
        have BK679 := n0_
        have HB := n1_
        clear n0_ n1_
        refine start_ (n := 9) (S := fun w' => True) (ds := []) #[false, false, false, false, false, false, false, false, false] (by kernel_rfl) rfl rfl trivial (fun hHeld => ?_); refine with_tabW spec_MakeRatio.tab8 spec_MakeRatio.bits8 (fun HT_ HW_ => ?_)
        generalize wc.drew = w27 at BK679 HB hHeld ⊢
        refine pure_ (i := 0) (N := some 38) (v := ?_) (a' := ?_) #[true, false, false, false, false, false, false, false, false] rfl rfl (any_of HT_.out (by kernel_rfl)) (fun _ _ _ h => h) (Or.inl ⟨by rfl, ?_⟩) ?_ ?_
        rotate_left
        ·
         intro w'
         go_simp
         with_reducible rfl
        rotate_left
        ·
         simp only [Act.put, List.setIfInBounds_toArray, List.set_cons_zero, List.set_cons_succ, i64_w, i32_w]
         rfl
        refine pure_ (i := 1) (N := some 39) (v := ?_) (a' := ?_) #[true, true, false, false, false, false, false, false, false] rfl rfl (any_of HT_.out (by kernel_rfl)) (fun _ _ _ h => h) (Or.inl ⟨by rfl, ?_⟩) ?_ ?_
        rotate_left
        ·
         intro w'
         go_simp
         with_reducible rfl
        rotate_left
        ·
         simp only [Act.put, List.setIfInBounds_toArray, List.set_cons_zero, List.set_cons_succ, i64_w, i32_w]
         rfl
        refine pure_ (i := 2) (N := some 40) (v := ?_) (a' := ?_) #[true, true, true, false, false, false, false, false, false] rfl rfl (any_of HT_.out (by kernel_rfl)) (fun _ _ _ h => h) (Or.inl ⟨by rfl, ?_⟩) ?_ ?_
        rotate_left
        ·
         intro w'
         go_simp
         with_reducible rfl
        rotate_left
        ·
         simp only [Act.put, List.setIfInBounds_toArray, List.set_cons_zero, List.set_cons_succ, i64_w, i32_w]
         rfl
        refine pure_ (i := 3) (N := some 41) (v := ?_) (a' := ?_) #[true, true, true, true, false, false, false, false, false] rfl rfl (any_of HT_.out (by kernel_rfl)) (fun _ _ _ h => h) (Or.inl ⟨by rfl, ?_⟩) ?_ ?_
        rotate_left
        ·
         intro w'
         go_simp
         with_reducible rfl
        rotate_left
        ·
         simp only [Act.put, List.setIfInBounds_toArray, List.set_cons_zero, List.set_cons_succ, i64_w, i32_w]
         rfl
        refine pure_ (i := 4) (N := some 42) (v := ?_) (a' := ?_) #[true, true, true, true, true, false, false, false, false] rfl rfl (any_of HT_.out (by kernel_rfl)) (fun _ _ _ h => h) (Or.inl ⟨by rfl, ?_⟩) ?_ ?_
        rotate_left
        ·
         intro w'
         go_simp
         with_reducible rfl
        rotate_left
        ·
         simp only [Act.put, List.setIfInBounds_toArray, List.set_cons_zero, List.set_cons_succ, i64_w, i32_w]
         rfl
        refine pure_ (i := 5) (N := some 43) (v := ?_) (a' := ?_) #[true, true, true, true, true, true, false, false, false] rfl rfl (any_of HT_.out (by kernel_rfl)) (fun _ _ _ h => h) (Or.inl ⟨by rfl, ?_⟩) ?_ ?_
        rotate_left
        ·
         intro w'
         go_simp
         with_reducible rfl
        rotate_left
        ·
         simp only [Act.put, List.setIfInBounds_toArray, List.set_cons_zero, List.set_cons_succ, i64_w, i32_w]
         rfl
        refine pure_ (i := 6) (N := some 44) (v := ?_) (a' := ?_) #[true, true, true, true, true, true, true, false, false] rfl rfl (any_of HT_.out (by kernel_rfl)) (fun _ _ _ h => h) (Or.inl ⟨by rfl, ?_⟩) ?_ ?_
        rotate_left
        ·
         intro w'
         go_simp
         with_reducible rfl
        rotate_left
        ·
         simp only [Act.put, List.setIfInBounds_toArray, List.set_cons_zero, List.set_cons_succ, i64_w, i32_w]
         rfl
        refine one_ (i := 7) (N := some 8) #[true, true, true, true, true, true, true, true, false] rfl rfl (one_of HT_.out (by kernel_rfl)) (by decide) (fun K hK => ?_)
        refine box_step ?hg (N := 8) ?hd (cs := #[.int .i64 0, .int .i64 0]) (t := 95) ?hr ?_; (case hd => rfl); (case hg => rfl); (case hr => first | (go_simp; done) | (go_simp; rfl))
        intro gb684 hg w28 hbox hb
        have n0_ := Aside0.mk (blk_below (g := gb679) (o := .cells #[.int .i64 0, .int .i64 0] 95 (0, 0)) (by (with_reducible repeat (first | refine blk_drewN ?_ _ | refine blk_drew ?_ | refine blk_alloc ?_ _)); exact BK679.out) hb)
        have n1_ := Aside0.mk (below_step (by repeat (first | (with_reducible first | exact HB.out | apply below_alloc | apply pw_below_drewN | apply below_drew1 | refine below_set ?_ GE679.out) | exact HB.out)) hb)
        have n2_ := Aside0.mk (hbox)
        have n3_ := Aside0.mk ((by rw [hg]; exact (below_size (by repeat (first | (with_reducible first | exact HB.out | apply below_alloc | apply pw_below_drewN | apply below_drew1 | refine below_set ?_ GE679.out) | exact HB.out))) : w.heap.size ≤ gb684))
        have n4_ := Aside0.mk ((by rw [hg]; exact (below_size (by repeat (first | (with_reducible first | exact HB.out | apply below_alloc | apply pw_below_drewN | apply below_drew1 | refine below_set ?_ GE679.out) | exact HB.out))) : w.heap.size ≤ gb684))
        have n5_ := Aside0.mk ((by rw [hg]; exact Nat.ne_of_lt (blk_lt (g := gb679) (o := .cells #[.int .i64 0, .int .i64 0] 95 (0, 0)) (by (with_reducible repeat (first | refine blk_drewN ?_ _ | refine blk_drew ?_ | refine blk_alloc ?_ _)); exact BK679.out)) : gb679 ≠ gb684))
        have n6_ := Aside0.mk ((by rw [hg]; exact Nat.ne_of_gt (blk_lt (g := gb679) (o := .cells #[.int .i64 0, .int .i64 0] 95 (0, 0)) (by (with_reducible repeat (first | refine blk_drewN ?_ _ | refine blk_drew ?_ | refine blk_alloc ?_ _)); exact BK679.out)) : gb684 ≠ gb679))
        clear BK679
        clear HB
        have BK679 := n0_
        have HB := n1_
        have BK684 := n2_
        have GW684 := n3_
        have GE684 := n4_
        have NB679_684 := n5_
        have NB684_679 := n6_
        clear n0_ n1_ n2_ n3_ n4_ n5_ n6_
        clear hb hbox hg
        refine hK.out _ _ trivial (fun hHeld => ?_)
        clear hK K
        refine norm_ (a' := ?_) ?_ ?_
        rotate_left
        ·
         show Act.put _ (some 8) _ = _
         simp only [Act.put, List.setIfInBounds_toArray, List.set_cons_zero, List.set_cons_succ, i64_w, i32_w]
         rfl
        refine one_ (i := 8) (N := none) #[true, true, true, true, true, true, true, true, true] rfl rfl (one_of HT_.out (by kernel_rfl)) (by decide) (fun K hK => ?_)
        have hs29 : w28.cell? ⟨gb684, 0, none⟩ = some (.int .i64 0) := (blk_cell BK684.out 0).trans rfl
        have hfs29 := blk_frozen BK684.out 0
        have hns29_0 := NB679_684.out
        have hms29_0 := NB684_679.out
        have hs30 : w28.cell? ⟨gb684, 1, none⟩ = some (.int .i64 0) := (blk_cell BK684.out 1).trans rfl
        have hfs30 := blk_frozen BK684.out 1
        have hns30_0 := NB679_684.out
        have hms30_0 := NB684_679.out
        refine skip_ (w1 := ?_) (by rfl) rfl ?_ ?_
        rotate_left
        ·
         go_simp
         rfl
        refine hK.out _ _ trivial (fun hHeld => ?_)
        clear hK K
        refine done_ (done_of HT_.out (by kernel_rfl)) ?_
        have hnb31 := NB684_679.out
        have hnc31 := NB679_684.out
        have hcz32_0 : w28.cell? ⟨gb684, 0, none⟩ = some (.int .i64 0) := (blk_cell BK684.out 0).trans rfl
        have hcz32_1 : w28.cell? ⟨gb684, 1, none⟩ = some (.int .i64 0) := (blk_cell BK684.out 1).trans rfl
        have hfz32_0 := blk_frozen BK684.out 0
        have hfz32_1 := blk_frozen BK684.out 1
        try go_wp2_with (first | ((with_reducible refine gate_callee (f := 146) rfl ?_); refine goesL_ (some 46) rfl rfl Try.func146 (by kernel_rfl) rfl #[.agg #[.int .i64 (wrap64 (Int.tdiv x0_10 t683)), .int .i64 (wrap64 (Int.tdiv x1_10 t683))]] rfl (by (try simp only [List.map_toArray, List.map_cons, List.map_nil]); first | done | rfl | (simp only [List.length_drop, List.length_take]; rfl)) ?_; (with_reducible refine (spec_IsRatio.calls kj10 (wrap64 (Int.tdiv x0_10 t683)) (wrap64 (Int.tdiv x1_10 t683)) false _ A16.out).mono ?_); rintro e w33 ⟨rfl, hb⟩; refine ⟨_, rfl, ?_⟩; have n0_ := Aside0.mk (blk_below (g := gb679) (o := .cells #[.int .i64 0, .int .i64 0] 95 (0, 0)) (by (with_reducible repeat (first | refine blk_drewN ?_ _ | refine blk_drew ?_ | refine blk_alloc ?_ _)); refine blk_far ?_ NB679_684.out _; (with_reducible repeat (first | refine blk_drewN ?_ _ | refine blk_drew ?_ | refine blk_alloc ?_ _)); refine blk_far ?_ NB679_684.out _; (with_reducible repeat (first | refine blk_drewN ?_ _ | refine blk_drew ?_ | refine blk_alloc ?_ _)); exact BK679.out) hb); have n1_ := Aside0.mk (blk_below (g := gb684) (o := .cells #[.int .i64 (wrap64 (Int.tdiv x0_10 t683)), .int .i64 (wrap64 (Int.tdiv x1_10 t683))] 95 (0, 0)) (by (with_reducible repeat (first | refine blk_drewN ?_ _ | refine blk_drew ?_ | refine blk_alloc ?_ _)); refine blk_put (cs := #[.int .i64 (wrap64 (Int.tdiv x0_10 t683)), .int .i64 0]) ?_ 1 _ rfl; (with_reducible repeat (first | refine blk_drewN ?_ _ | refine blk_drew ?_ | refine blk_alloc ?_ _)); refine blk_put (cs := #[.int .i64 0, .int .i64 0]) ?_ 0 _ rfl; (with_reducible repeat (first | refine blk_drewN ?_ _ | refine blk_drew ?_ | refine blk_alloc ?_ _)); exact BK684.out) hb); have n2_ := Aside0.mk (below_step (by repeat (first | (with_reducible first | exact HB.out | apply below_alloc | apply pw_below_drewN | apply below_drew1 | refine below_set ?_ GE679.out | refine below_set ?_ GE684.out) | exact HB.out)) hb); clear BK679; clear BK684; clear HB; have BK679 := n0_; have BK684 := n1_; have HB := n2_; clear n0_ n1_ n2_; (try clear hb); (try clear hb2); (try clear hk); (try clear hi); have hcz34_0 : w33.cell? ⟨gb679, 0, none⟩ = some (.int .i64 0) := (blk_cell BK679.out 0).trans rfl; have hcz34_1 : w33.cell? ⟨gb679, 1, none⟩ = some (.int .i64 0) := (blk_cell BK679.out 1).trans rfl; have hfz34_0 := blk_frozen BK679.out 0; have hfz34_1 := blk_frozen BK679.out 1))
        refine bodyPost_ret (results_ct rfl _ _ gb679 95 #[.int .i64 0, .int .i64 0] (0, 0) _ rfl (by (with_reducible repeat (first | refine blk_drewN ?_ _ | refine blk_drew ?_ | refine blk_alloc ?_ _)); refine blk_put (cs := #[.int .i64 0, .int .i64 0]) ?_ 1 _ rfl; (with_reducible repeat (first | refine blk_drewN ?_ _ | refine blk_drew ?_ | refine blk_alloc ?_ _)); refine blk_put (cs := #[.int .i64 0, .int .i64 0]) ?_ 0 _ rfl; (with_reducible repeat (first | refine blk_drewN ?_ _ | refine blk_drew ?_ | refine blk_alloc ?_ _)); exact BK679.out) Try.underlying95 rfl (by kernel_rfl)) rfl ?_
        exact ⟨by first | rfl | (simp [errW_none, errW_some] <;> rfl) | (simp [*, errW_none, errW_some] <;> rfl), by repeat (first | (with_reducible first | exact HB.out | apply below_alloc | apply pw_below_drewN | apply below_drew1 | refine below_set ?_ GE679.out | refine below_set ?_ GE684.out) | exact HB.out)⟩
end Go.Proofs.Ytbhlmeghbfmgiaa.F

namespace Go.Proofs.Ytbhlmeghbfmgiaa.F
open Go.RowKit Go.Proofs.YtbhlmeghbfmgiaaW.PrintWords Go.Proofs.YtbhlmeghbfmgiaaW.PrintLast Go.Proofs.YtbhlmeghbfmgiaaW.PrintMore
attribute [local go_sem] max2_int min2_int max_two min_two max_three min_three max_four min_four
set_option linter.unusedVariables false
set_option linter.unusedSimpArgs false
def spec_IsTempo.l0 : Nat → List (S151) → Int → Option (Bool)
 | 0, _, _ => none
 | k + 1, x0, x3 => if x3 < (x0.length : Int) then (if 0 ≤ x3 then ((spec_l1In.f ((rd_T151 x0 x3).f1) 20 300).bind fun t688 => (if t688 = true then ((spec_l1In.f ((rd_T151 x0 x3).f0) 0 2000).bind fun t690 => (if t690 = true then (if x3 = 0 then (if ((rd_T151 x0 x3).f0) = 0 then (if x3 > 0 then (if 0 ≤ (wrap64 (x3 - 1)) then (if (wrap64 (x3 - 1)) < (x0.length : Int) then (if ((rd_T151 x0 (wrap64 (x3 - 1))).f0) ≥ ((rd_T151 x0 x3).f0) then (some false) else (spec_IsTempo.l0 k x0 (wrap64 (x3 + 1)))) else (none)) else (none)) else (spec_IsTempo.l0 k x0 (wrap64 (x3 + 1)))) else (some false)) else (if x3 > 0 then (if 0 ≤ (wrap64 (x3 - 1)) then (if (wrap64 (x3 - 1)) < (x0.length : Int) then (if ((rd_T151 x0 (wrap64 (x3 - 1))).f0) ≥ ((rd_T151 x0 x3).f0) then (some false) else (spec_IsTempo.l0 k x0 (wrap64 (x3 + 1)))) else (none)) else (none)) else (spec_IsTempo.l0 k x0 (wrap64 (x3 + 1))))) else (some false))) else (some false))) else (none)) else ((spec_l1In.f (x0.length : Int) 1 8).bind fun t686 => (some t686))
def spec_IsTempo.f (k : Nat) (l0 : List (S151)) : Option (Bool) := spec_IsTempo.l0 k l0 0
set_option maxHeartbeats 8000000 in
set_option maxRecDepth 100000 in
theorem spec_IsTempo.calls (k : Nat) (A0 : Option Addr) (c0 : Nat) (l0 : List (S151)) (r : Bool) (w : World) (hr0 : Kd.C k151 w A0 l0.length l0) (hc0 : l0.length ≤ c0) (h : spec_IsTempo.f k l0 = some r) :
  Calls Try.prog 143 #[.slice A0 l0.length c0] w fun e w' => e = .returned (.bool r) ∧ Below w.heap.size w w' := by
 have HR0 := Aside0.mk hr0
 have HC0 := Aside0.mk hc0
 clear hr0 hc0
 have HB := Aside0.mk (Below.refl w.heap.size w)
 have H : (spec_IsTempo.l0 k l0 0) = some r := h
 clear h
 have H' := Aside0.mk H
 clear H
 go_enter Try.func143, Try.ntmps143
 go_wp2
 go_loopg [3] k (fun kq v3 w' => ∃ (x3_1 : Int), v3 = .int .i64 x3_1 ∧ Aside0 (spec_IsTempo.l0 kq l0 x3_1 = some r) ∧ Aside0 (kq ≤ k) ∧ Aside0 (Below w.heap.size w w'))
 case atStart => exact ⟨(0), (by first | rfl | (simp; done) | (simp [*]; done)), H', ⟨Nat.le_refl _⟩, ⟨by repeat (first | (with_reducible first | exact HB.out | apply below_alloc | apply pw_below_drewN | apply below_drew1) | exact HB.out)⟩⟩
 case round =>
  clear H'
  try clear c1
  obtain ⟨x3_1, rfl, HA, HK1, HB⟩ := hrel
  cases gk with
  | zero => exact absurd HA.out (by simp [spec_IsTempo.l0])
  | succ k1 =>
   have H := HA.out
   clear HA
   simp only [spec_IsTempo.l0] at H
   by_cases c2 : x3_1 < (l0.length : Int)
   ·
    rw [if_pos c2] at H
    have c2b0 : decide (x3_1 < (l0.length : Int)) = true := decide_eq_true c2
    clear c2
    by_cases c3 : 0 ≤ x3_1
    ·
     rw [if_pos c3] at H
     have c3b0 : decide (0 ≤ x3_1) = true := decide_eq_true c3
     clear c3
     replace H := Option.bind_eq_some_iff.mp H
     obtain ⟨t688, A40, H⟩ := H
     try dsimp only at H
     have A4 := Aside0.mk A40
     clear A40
     by_cases c5 : t688 = true
     ·
      subst c5
      rw [if_pos rfl] at H
      replace H := Option.bind_eq_some_iff.mp H
      obtain ⟨t690, A60, H⟩ := H
      try dsimp only at H
      have A6 := Aside0.mk A60
      clear A60
      by_cases c7 : t690 = true
      ·
       subst c7
       rw [if_pos rfl] at H
       by_cases c8 : x3_1 = 0
       ·
        rw [if_pos c8] at H
        have c8b0 : (x3_1 == 0) = true := beq_iff_eq.mpr c8
        have c8b1 : (x3_1 != 0) = false := bne_eq_false_iff_eq.mpr c8
        clear c8
        by_cases c9 : ((rd_T151 l0 x3_1).f0) = 0
        ·
         rw [if_pos c9] at H
         have c9b0 : (((rd_T151 l0 x3_1).f0) == 0) = true := beq_iff_eq.mpr c9
         have c9b1 : (((rd_T151 l0 x3_1).f0) != 0) = false := bne_eq_false_iff_eq.mpr c9
         clear c9
         by_cases c10 : x3_1 > 0
         ·
          rw [if_pos c10] at H
          have c10b0 : decide (0 < x3_1) = true := decide_eq_true c10
          clear c10
          obtain ⟨ji11, hji11⟩ : ∃ j_ : Int, (wrap64 (x3_1 - 1)) = j_ := ⟨_, rfl⟩
          replace H : (if 0 ≤ (ji11) then (if (ji11) < (l0.length : Int) then (if ((rd_T151 l0 (ji11)).f0) ≥ ((rd_T151 l0 x3_1).f0) then (some false) else (spec_IsTempo.l0 k1 l0 (wrap64 (x3_1 + 1)))) else (none)) else (none)) = some r := by first | (rw [hji11] at H; exact H) | (simp only [hji11] at H ⊢; exact H)
          (try rw [hji11] at A4)
          (try rw [hji11] at A6)
          have hji11w : (IntKind.i64.wrap (x3_1 - 1)) = ji11 := (i64_w _).trans hji11
          by_cases c12 : 0 ≤ (ji11)
          ·
           rw [if_pos c12] at H
           have c12b0 : decide (0 ≤ (ji11)) = true := decide_eq_true c12
           clear c12
           by_cases c13 : (ji11) < (l0.length : Int)
           ·
            rw [if_pos c13] at H
            have c13b0 : decide ((ji11) < (l0.length : Int)) = true := decide_eq_true c13
            clear c13
            by_cases c14 : ((rd_T151 l0 (ji11)).f0) ≥ ((rd_T151 l0 x3_1).f0)
            ·
             rw [if_pos c14] at H
             have c14b0 : decide (((rd_T151 l0 x3_1).f0) ≤ ((rd_T151 l0 (ji11)).f0)) = true := decide_eq_true c14
             clear c14
             obtain rfl := Option.some.inj H
             try go_wp2
             have n0_ := Aside0.mk (below_drew1 HB.out)
             clear HB
             have HB := n0_
             clear n0_
             have p687 : 0 ≤ (x3_1 : Int) := of_decide_eq_true (by first | (with_reducible assumption) | assumption)
             have q687 : x3_1 < (l0.length : Int) := of_decide_eq_true (by first | (with_reducible assumption) | assumption)
             obtain ⟨ad687, e687, hx687_0, hx687_1⟩ := at_T151 HR0.out x3_1 p687 q687
             have hw687_1 := hx687_1
             have hw687_0 := hx687_0
             cases e687
             replace hx687_0 := (HB.out.cell (World.block_lt_of_cell? w _ hx687_0)).trans hx687_0
             replace hx687_1 := (HB.out.cell (World.block_lt_of_cell? w _ hx687_1)).trans hx687_1
             replace p687 := eq_true p687
             replace q687 := eq_true q687
             have p689 : 0 ≤ (x3_1 : Int) := of_decide_eq_true (by first | (with_reducible assumption) | assumption)
             have q689 : x3_1 < (l0.length : Int) := of_decide_eq_true (by first | (with_reducible assumption) | assumption)
             obtain ⟨ad689, e689, hx689_0, hx689_1⟩ := at_T151 HR0.out x3_1 p689 q689
             have hw689_1 := hx689_1
             have hw689_0 := hx689_0
             obtain rfl : ad687 = ad689 := (by injection e689)
             replace hx689_0 := (HB.out.cell (World.block_lt_of_cell? w _ hx689_0)).trans hx689_0
             replace hx689_1 := (HB.out.cell (World.block_lt_of_cell? w _ hx689_1)).trans hx689_1
             replace p689 := eq_true p689
             replace q689 := eq_true q689
             have p691 : 0 ≤ (x3_1 : Int) := of_decide_eq_true (by first | (with_reducible assumption) | assumption)
             have q691 : x3_1 < (l0.length : Int) := of_decide_eq_true (by first | (with_reducible assumption) | assumption)
             obtain ⟨ad691, e691, hx691_0, hx691_1⟩ := at_T151 HR0.out x3_1 p691 q691
             have hw691_1 := hx691_1
             have hw691_0 := hx691_0
             obtain rfl : ad687 = ad691 := (by injection e691)
             replace hx691_0 := (HB.out.cell (World.block_lt_of_cell? w _ hx691_0)).trans hx691_0
             replace hx691_1 := (HB.out.cell (World.block_lt_of_cell? w _ hx691_1)).trans hx691_1
             replace p691 := eq_true p691
             replace q691 := eq_true q691
             have p692 : 0 ≤ ((ji11) : Int) := of_decide_eq_true (by first | (with_reducible assumption) | assumption)
             have q692 : (ji11) < (l0.length : Int) := of_decide_eq_true (by first | (with_reducible assumption) | assumption)
             obtain ⟨ad692, e692, hx692_0, hx692_1⟩ := at_T151 HR0.out (ji11) p692 q692
             have hw692_1 := hx692_1
             have hw692_0 := hx692_0
             obtain rfl : ad687 = ad692 := (by injection e692)
             replace hx692_0 := (HB.out.cell (World.block_lt_of_cell? w _ hx692_0)).trans hx692_0
             replace hx692_1 := (HB.out.cell (World.block_lt_of_cell? w _ hx692_1)).trans hx692_1
             replace p692 := eq_true p692
             replace q692 := eq_true q692
             have p693 : 0 ≤ (x3_1 : Int) := of_decide_eq_true (by first | (with_reducible assumption) | assumption)
             have q693 : x3_1 < (l0.length : Int) := of_decide_eq_true (by first | (with_reducible assumption) | assumption)
             obtain ⟨ad693, e693, hx693_0, hx693_1⟩ := at_T151 HR0.out x3_1 p693 q693
             have hw693_1 := hx693_1
             have hw693_0 := hx693_0
             obtain rfl : ad687 = ad693 := (by injection e693)
             replace hx693_0 := (HB.out.cell (World.block_lt_of_cell? w _ hx693_0)).trans hx693_0
             replace hx693_1 := (HB.out.cell (World.block_lt_of_cell? w _ hx693_1)).trans hx693_1
             replace p693 := eq_true p693
             replace q693 := eq_true q693
             have hq0_ : wr.cell? (ad687.add ((x3_1).toNat * 2)) = some (.int .i64 ((rd_T151 l0 x3_1).f0)) := ((HB.out.cell (World.block_lt_of_cell? w _ hw687_0)).trans hw687_0)
             have hq1_ : wr.cell? ⟨(ad687.add ((x3_1).toNat * 2)).block, (ad687.add ((x3_1).toNat * 2)).off + 1, none⟩ = some (.int .i64 ((rd_T151 l0 x3_1).f1)) := ((HB.out.cell (World.block_lt_of_cell? w _ hw687_1)).trans hw687_1)
             have hq2_ : wr.cell? (ad687.add ((x3_1).toNat * 2)) = some (.int .i64 ((rd_T151 l0 x3_1).f0)) := ((HB.out.cell (World.block_lt_of_cell? w _ hw689_0)).trans hw689_0)
             have hq3_ : wr.cell? ⟨(ad687.add ((x3_1).toNat * 2)).block, (ad687.add ((x3_1).toNat * 2)).off + 1, none⟩ = some (.int .i64 ((rd_T151 l0 x3_1).f1)) := ((HB.out.cell (World.block_lt_of_cell? w _ hw689_1)).trans hw689_1)
             have hq4_ : wr.cell? (ad687.add ((x3_1).toNat * 2)) = some (.int .i64 ((rd_T151 l0 x3_1).f0)) := ((HB.out.cell (World.block_lt_of_cell? w _ hw691_0)).trans hw691_0)
             have hq5_ : wr.cell? ⟨(ad687.add ((x3_1).toNat * 2)).block, (ad687.add ((x3_1).toNat * 2)).off + 1, none⟩ = some (.int .i64 ((rd_T151 l0 x3_1).f1)) := ((HB.out.cell (World.block_lt_of_cell? w _ hw691_1)).trans hw691_1)
             have hq6_ : wr.cell? (ad687.add (((ji11)).toNat * 2)) = some (.int .i64 ((rd_T151 l0 (ji11)).f0)) := ((HB.out.cell (World.block_lt_of_cell? w _ hw692_0)).trans hw692_0)
             have hq7_ : wr.cell? ⟨(ad687.add (((ji11)).toNat * 2)).block, (ad687.add (((ji11)).toNat * 2)).off + 1, none⟩ = some (.int .i64 ((rd_T151 l0 (ji11)).f1)) := ((HB.out.cell (World.block_lt_of_cell? w _ hw692_1)).trans hw692_1)
             have hq8_ : wr.cell? (ad687.add ((x3_1).toNat * 2)) = some (.int .i64 ((rd_T151 l0 x3_1).f0)) := ((HB.out.cell (World.block_lt_of_cell? w _ hw693_0)).trans hw693_0)
             have hq9_ : wr.cell? ⟨(ad687.add ((x3_1).toNat * 2)).block, (ad687.add ((x3_1).toNat * 2)).off + 1, none⟩ = some (.int .i64 ((rd_T151 l0 x3_1).f1)) := ((HB.out.cell (World.block_lt_of_cell? w _ hw693_1)).trans hw693_1)
             go_quiet ((first | (go_at_call 110; apply Calls.quiet_of; ((with_reducible refine (spec_l1In.calls ((rd_T151 l0 x3_1).f1) 20 300 true _ A4.out).mono ?_); exact fun _ _ h_ => ⟨h_.1, h_.2.out⟩)) | (go_at_call 110; apply Calls.quiet_of; ((with_reducible refine (spec_l1In.calls ((rd_T151 l0 x3_1).f0) 0 2000 true _ A6.out).mono ?_); exact fun _ _ h_ => ⟨h_.1, h_.2.out⟩))))
             have nHB_ := Aside0.mk (pw_below_drewN (W := wr) ⟨HB.out.os, HB.out.tape, HB.out.output, HB.out.size, HB.out.block⟩ nq)
             have nhx687_0_ : (wr.drewN nq).cell? _ = _ := hx687_0
             have nhx687_1_ : (wr.drewN nq).cell? _ = _ := hx687_1
             have nhx689_0_ : (wr.drewN nq).cell? _ = _ := hx689_0
             have nhx689_1_ : (wr.drewN nq).cell? _ = _ := hx689_1
             have nhx691_0_ : (wr.drewN nq).cell? _ = _ := hx691_0
             have nhx691_1_ : (wr.drewN nq).cell? _ = _ := hx691_1
             have nhx692_0_ : (wr.drewN nq).cell? _ = _ := hx692_0
             have nhx692_1_ : (wr.drewN nq).cell? _ = _ := hx692_1
             have nhx693_0_ : (wr.drewN nq).cell? _ = _ := hx693_0
             have nhx693_1_ : (wr.drewN nq).cell? _ = _ := hx693_1
             clear HB hx687_0 hx687_1 hx689_0 hx689_1 hx691_0 hx691_1 hx692_0 hx692_1 hx693_0 hx693_1 hq0_ hq1_ hq2_ hq3_ hq4_ hq5_ hq6_ hq7_ hq8_ hq9_
             have HB := nHB_
             have hx687_0 := nhx687_0_
             have hx687_1 := nhx687_1_
             have hx689_0 := nhx689_0_
             have hx689_1 := nhx689_1_
             have hx691_0 := nhx691_0_
             have hx691_1 := nhx691_1_
             have hx692_0 := nhx692_0_
             have hx692_1 := nhx692_1_
             have hx693_0 := nhx693_0_
             have hx693_1 := nhx693_1_
             clear nHB_ nhx687_0_ nhx687_1_ nhx689_0_ nhx689_1_ nhx691_0_ nhx691_1_ nhx692_0_ nhx692_1_ nhx693_0_ nhx693_1_
             generalize wr.drewN nq = w15 at HB hx687_0 hx687_1 hx689_0 hx689_1 hx691_0 hx691_1 hx692_0 hx692_1 hx693_0 hx693_1 ⊢
             try go_wp2
             go_ret
             exact ⟨by first | rfl | (simp [errW_none, errW_some] <;> rfl) | (simp only [← hji11]; first | rfl | (simp [errW_none, errW_some] <;> rfl)) | (simp [*, errW_none, errW_some] <;> rfl), by repeat (first | (with_reducible first | exact HB.out | apply below_alloc | apply pw_below_drewN | apply below_drew1) | exact HB.out)⟩
            ·
             rw [if_neg c14] at H
             have c14b0 : decide (((rd_T151 l0 x3_1).f0) ≤ ((rd_T151 l0 (ji11)).f0)) = false := decide_eq_false c14
             clear c14
             have H' := Aside0.mk H
             clear H
             try go_wp2
             have n0_ := Aside0.mk (below_drew1 HB.out)
             clear HB
             have HB := n0_
             clear n0_
             have p687 : 0 ≤ (x3_1 : Int) := of_decide_eq_true (by first | (with_reducible assumption) | assumption)
             have q687 : x3_1 < (l0.length : Int) := of_decide_eq_true (by first | (with_reducible assumption) | assumption)
             obtain ⟨ad687, e687, hx687_0, hx687_1⟩ := at_T151 HR0.out x3_1 p687 q687
             have hw687_1 := hx687_1
             have hw687_0 := hx687_0
             cases e687
             replace hx687_0 := (HB.out.cell (World.block_lt_of_cell? w _ hx687_0)).trans hx687_0
             replace hx687_1 := (HB.out.cell (World.block_lt_of_cell? w _ hx687_1)).trans hx687_1
             replace p687 := eq_true p687
             replace q687 := eq_true q687
             have p689 : 0 ≤ (x3_1 : Int) := of_decide_eq_true (by first | (with_reducible assumption) | assumption)
             have q689 : x3_1 < (l0.length : Int) := of_decide_eq_true (by first | (with_reducible assumption) | assumption)
             obtain ⟨ad689, e689, hx689_0, hx689_1⟩ := at_T151 HR0.out x3_1 p689 q689
             have hw689_1 := hx689_1
             have hw689_0 := hx689_0
             obtain rfl : ad687 = ad689 := (by injection e689)
             replace hx689_0 := (HB.out.cell (World.block_lt_of_cell? w _ hx689_0)).trans hx689_0
             replace hx689_1 := (HB.out.cell (World.block_lt_of_cell? w _ hx689_1)).trans hx689_1
             replace p689 := eq_true p689
             replace q689 := eq_true q689
             have p691 : 0 ≤ (x3_1 : Int) := of_decide_eq_true (by first | (with_reducible assumption) | assumption)
             have q691 : x3_1 < (l0.length : Int) := of_decide_eq_true (by first | (with_reducible assumption) | assumption)
             obtain ⟨ad691, e691, hx691_0, hx691_1⟩ := at_T151 HR0.out x3_1 p691 q691
             have hw691_1 := hx691_1
             have hw691_0 := hx691_0
             obtain rfl : ad687 = ad691 := (by injection e691)
             replace hx691_0 := (HB.out.cell (World.block_lt_of_cell? w _ hx691_0)).trans hx691_0
             replace hx691_1 := (HB.out.cell (World.block_lt_of_cell? w _ hx691_1)).trans hx691_1
             replace p691 := eq_true p691
             replace q691 := eq_true q691
             have p692 : 0 ≤ ((ji11) : Int) := of_decide_eq_true (by first | (with_reducible assumption) | assumption)
             have q692 : (ji11) < (l0.length : Int) := of_decide_eq_true (by first | (with_reducible assumption) | assumption)
             obtain ⟨ad692, e692, hx692_0, hx692_1⟩ := at_T151 HR0.out (ji11) p692 q692
             have hw692_1 := hx692_1
             have hw692_0 := hx692_0
             obtain rfl : ad687 = ad692 := (by injection e692)
             replace hx692_0 := (HB.out.cell (World.block_lt_of_cell? w _ hx692_0)).trans hx692_0
             replace hx692_1 := (HB.out.cell (World.block_lt_of_cell? w _ hx692_1)).trans hx692_1
             replace p692 := eq_true p692
             replace q692 := eq_true q692
             have p693 : 0 ≤ (x3_1 : Int) := of_decide_eq_true (by first | (with_reducible assumption) | assumption)
             have q693 : x3_1 < (l0.length : Int) := of_decide_eq_true (by first | (with_reducible assumption) | assumption)
             obtain ⟨ad693, e693, hx693_0, hx693_1⟩ := at_T151 HR0.out x3_1 p693 q693
             have hw693_1 := hx693_1
             have hw693_0 := hx693_0
             obtain rfl : ad687 = ad693 := (by injection e693)
             replace hx693_0 := (HB.out.cell (World.block_lt_of_cell? w _ hx693_0)).trans hx693_0
             replace hx693_1 := (HB.out.cell (World.block_lt_of_cell? w _ hx693_1)).trans hx693_1
             replace p693 := eq_true p693
             replace q693 := eq_true q693
             have hq0_ : wr.cell? (ad687.add ((x3_1).toNat * 2)) = some (.int .i64 ((rd_T151 l0 x3_1).f0)) := ((HB.out.cell (World.block_lt_of_cell? w _ hw687_0)).trans hw687_0)
             have hq1_ : wr.cell? ⟨(ad687.add ((x3_1).toNat * 2)).block, (ad687.add ((x3_1).toNat * 2)).off + 1, none⟩ = some (.int .i64 ((rd_T151 l0 x3_1).f1)) := ((HB.out.cell (World.block_lt_of_cell? w _ hw687_1)).trans hw687_1)
             have hq2_ : wr.cell? (ad687.add ((x3_1).toNat * 2)) = some (.int .i64 ((rd_T151 l0 x3_1).f0)) := ((HB.out.cell (World.block_lt_of_cell? w _ hw689_0)).trans hw689_0)
             have hq3_ : wr.cell? ⟨(ad687.add ((x3_1).toNat * 2)).block, (ad687.add ((x3_1).toNat * 2)).off + 1, none⟩ = some (.int .i64 ((rd_T151 l0 x3_1).f1)) := ((HB.out.cell (World.block_lt_of_cell? w _ hw689_1)).trans hw689_1)
             have hq4_ : wr.cell? (ad687.add ((x3_1).toNat * 2)) = some (.int .i64 ((rd_T151 l0 x3_1).f0)) := ((HB.out.cell (World.block_lt_of_cell? w _ hw691_0)).trans hw691_0)
             have hq5_ : wr.cell? ⟨(ad687.add ((x3_1).toNat * 2)).block, (ad687.add ((x3_1).toNat * 2)).off + 1, none⟩ = some (.int .i64 ((rd_T151 l0 x3_1).f1)) := ((HB.out.cell (World.block_lt_of_cell? w _ hw691_1)).trans hw691_1)
             have hq6_ : wr.cell? (ad687.add (((ji11)).toNat * 2)) = some (.int .i64 ((rd_T151 l0 (ji11)).f0)) := ((HB.out.cell (World.block_lt_of_cell? w _ hw692_0)).trans hw692_0)
             have hq7_ : wr.cell? ⟨(ad687.add (((ji11)).toNat * 2)).block, (ad687.add (((ji11)).toNat * 2)).off + 1, none⟩ = some (.int .i64 ((rd_T151 l0 (ji11)).f1)) := ((HB.out.cell (World.block_lt_of_cell? w _ hw692_1)).trans hw692_1)
             have hq8_ : wr.cell? (ad687.add ((x3_1).toNat * 2)) = some (.int .i64 ((rd_T151 l0 x3_1).f0)) := ((HB.out.cell (World.block_lt_of_cell? w _ hw693_0)).trans hw693_0)
             have hq9_ : wr.cell? ⟨(ad687.add ((x3_1).toNat * 2)).block, (ad687.add ((x3_1).toNat * 2)).off + 1, none⟩ = some (.int .i64 ((rd_T151 l0 x3_1).f1)) := ((HB.out.cell (World.block_lt_of_cell? w _ hw693_1)).trans hw693_1)
             go_quiet ((first | (go_at_call 110; apply Calls.quiet_of; ((with_reducible refine (spec_l1In.calls ((rd_T151 l0 x3_1).f1) 20 300 true _ A4.out).mono ?_); exact fun _ _ h_ => ⟨h_.1, h_.2.out⟩)) | (go_at_call 110; apply Calls.quiet_of; ((with_reducible refine (spec_l1In.calls ((rd_T151 l0 x3_1).f0) 0 2000 true _ A6.out).mono ?_); exact fun _ _ h_ => ⟨h_.1, h_.2.out⟩))))
             have nHB_ := Aside0.mk (pw_below_drewN (W := wr) ⟨HB.out.os, HB.out.tape, HB.out.output, HB.out.size, HB.out.block⟩ nq)
             have nhx687_0_ : (wr.drewN nq).cell? _ = _ := hx687_0
             have nhx687_1_ : (wr.drewN nq).cell? _ = _ := hx687_1
             have nhx689_0_ : (wr.drewN nq).cell? _ = _ := hx689_0
             have nhx689_1_ : (wr.drewN nq).cell? _ = _ := hx689_1
             have nhx691_0_ : (wr.drewN nq).cell? _ = _ := hx691_0
             have nhx691_1_ : (wr.drewN nq).cell? _ = _ := hx691_1
             have nhx692_0_ : (wr.drewN nq).cell? _ = _ := hx692_0
             have nhx692_1_ : (wr.drewN nq).cell? _ = _ := hx692_1
             have nhx693_0_ : (wr.drewN nq).cell? _ = _ := hx693_0
             have nhx693_1_ : (wr.drewN nq).cell? _ = _ := hx693_1
             clear HB hx687_0 hx687_1 hx689_0 hx689_1 hx691_0 hx691_1 hx692_0 hx692_1 hx693_0 hx693_1 hq0_ hq1_ hq2_ hq3_ hq4_ hq5_ hq6_ hq7_ hq8_ hq9_
             have HB := nHB_
             have hx687_0 := nhx687_0_
             have hx687_1 := nhx687_1_
             have hx689_0 := nhx689_0_
             have hx689_1 := nhx689_1_
             have hx691_0 := nhx691_0_
             have hx691_1 := nhx691_1_
             have hx692_0 := nhx692_0_
             have hx692_1 := nhx692_1_
             have hx693_0 := nhx693_0_
             have hx693_1 := nhx693_1_
             clear nHB_ nhx687_0_ nhx687_1_ nhx689_0_ nhx689_1_ nhx691_0_ nhx691_1_ nhx692_0_ nhx692_1_ nhx693_0_ nhx693_1_
             generalize wr.drewN nq = w16 at HB hx687_0 hx687_1 hx689_0 hx689_1 hx691_0 hx691_1 hx692_0 hx692_1 hx693_0 hx693_1 ⊢
             try go_wp2
             go_roundg k1
             case measure => have := HK1.out; omega
             case rel => exact ⟨(wrap64 (x3_1 + 1)), (by first | rfl | (simp; done) | (simp [*]; done)), H', ⟨by have := HK1.out; omega⟩, ⟨by repeat (first | (with_reducible first | exact HB.out | apply below_alloc | apply pw_below_drewN | apply below_drew1) | exact HB.out)⟩⟩
           ·
            rw [if_neg c13] at H
            exact absurd H (by simp)
          ·
           rw [if_neg c12] at H
           exact absurd H (by simp)
         ·
          rw [if_neg c10] at H
          have c10b0 : decide (0 < x3_1) = false := decide_eq_false c10
          clear c10
          have H' := Aside0.mk H
          clear H
          try go_wp2
          have n0_ := Aside0.mk (below_drew1 HB.out)
          clear HB
          have HB := n0_
          clear n0_
          have p687 : 0 ≤ (x3_1 : Int) := of_decide_eq_true (by first | (with_reducible assumption) | assumption)
          have q687 : x3_1 < (l0.length : Int) := of_decide_eq_true (by first | (with_reducible assumption) | assumption)
          obtain ⟨ad687, e687, hx687_0, hx687_1⟩ := at_T151 HR0.out x3_1 p687 q687
          have hw687_1 := hx687_1
          have hw687_0 := hx687_0
          cases e687
          replace hx687_0 := (HB.out.cell (World.block_lt_of_cell? w _ hx687_0)).trans hx687_0
          replace hx687_1 := (HB.out.cell (World.block_lt_of_cell? w _ hx687_1)).trans hx687_1
          replace p687 := eq_true p687
          replace q687 := eq_true q687
          have p689 : 0 ≤ (x3_1 : Int) := of_decide_eq_true (by first | (with_reducible assumption) | assumption)
          have q689 : x3_1 < (l0.length : Int) := of_decide_eq_true (by first | (with_reducible assumption) | assumption)
          obtain ⟨ad689, e689, hx689_0, hx689_1⟩ := at_T151 HR0.out x3_1 p689 q689
          have hw689_1 := hx689_1
          have hw689_0 := hx689_0
          obtain rfl : ad687 = ad689 := (by injection e689)
          replace hx689_0 := (HB.out.cell (World.block_lt_of_cell? w _ hx689_0)).trans hx689_0
          replace hx689_1 := (HB.out.cell (World.block_lt_of_cell? w _ hx689_1)).trans hx689_1
          replace p689 := eq_true p689
          replace q689 := eq_true q689
          have p691 : 0 ≤ (x3_1 : Int) := of_decide_eq_true (by first | (with_reducible assumption) | assumption)
          have q691 : x3_1 < (l0.length : Int) := of_decide_eq_true (by first | (with_reducible assumption) | assumption)
          obtain ⟨ad691, e691, hx691_0, hx691_1⟩ := at_T151 HR0.out x3_1 p691 q691
          have hw691_1 := hx691_1
          have hw691_0 := hx691_0
          obtain rfl : ad687 = ad691 := (by injection e691)
          replace hx691_0 := (HB.out.cell (World.block_lt_of_cell? w _ hx691_0)).trans hx691_0
          replace hx691_1 := (HB.out.cell (World.block_lt_of_cell? w _ hx691_1)).trans hx691_1
          replace p691 := eq_true p691
          replace q691 := eq_true q691
          have hq0_ : wr.cell? (ad687.add ((x3_1).toNat * 2)) = some (.int .i64 ((rd_T151 l0 x3_1).f0)) := ((HB.out.cell (World.block_lt_of_cell? w _ hw687_0)).trans hw687_0)
          have hq1_ : wr.cell? ⟨(ad687.add ((x3_1).toNat * 2)).block, (ad687.add ((x3_1).toNat * 2)).off + 1, none⟩ = some (.int .i64 ((rd_T151 l0 x3_1).f1)) := ((HB.out.cell (World.block_lt_of_cell? w _ hw687_1)).trans hw687_1)
          have hq2_ : wr.cell? (ad687.add ((x3_1).toNat * 2)) = some (.int .i64 ((rd_T151 l0 x3_1).f0)) := ((HB.out.cell (World.block_lt_of_cell? w _ hw689_0)).trans hw689_0)
          have hq3_ : wr.cell? ⟨(ad687.add ((x3_1).toNat * 2)).block, (ad687.add ((x3_1).toNat * 2)).off + 1, none⟩ = some (.int .i64 ((rd_T151 l0 x3_1).f1)) := ((HB.out.cell (World.block_lt_of_cell? w _ hw689_1)).trans hw689_1)
          have hq4_ : wr.cell? (ad687.add ((x3_1).toNat * 2)) = some (.int .i64 ((rd_T151 l0 x3_1).f0)) := ((HB.out.cell (World.block_lt_of_cell? w _ hw691_0)).trans hw691_0)
          have hq5_ : wr.cell? ⟨(ad687.add ((x3_1).toNat * 2)).block, (ad687.add ((x3_1).toNat * 2)).off + 1, none⟩ = some (.int .i64 ((rd_T151 l0 x3_1).f1)) := ((HB.out.cell (World.block_lt_of_cell? w _ hw691_1)).trans hw691_1)
          go_quiet ((first | (go_at_call 110; apply Calls.quiet_of; ((with_reducible refine (spec_l1In.calls ((rd_T151 l0 x3_1).f1) 20 300 true _ A4.out).mono ?_); exact fun _ _ h_ => ⟨h_.1, h_.2.out⟩)) | (go_at_call 110; apply Calls.quiet_of; ((with_reducible refine (spec_l1In.calls ((rd_T151 l0 x3_1).f0) 0 2000 true _ A6.out).mono ?_); exact fun _ _ h_ => ⟨h_.1, h_.2.out⟩))))
          have nHB_ := Aside0.mk (pw_below_drewN (W := wr) ⟨HB.out.os, HB.out.tape, HB.out.output, HB.out.size, HB.out.block⟩ nq)
          have nhx687_0_ : (wr.drewN nq).cell? _ = _ := hx687_0
          have nhx687_1_ : (wr.drewN nq).cell? _ = _ := hx687_1
          have nhx689_0_ : (wr.drewN nq).cell? _ = _ := hx689_0
          have nhx689_1_ : (wr.drewN nq).cell? _ = _ := hx689_1
          have nhx691_0_ : (wr.drewN nq).cell? _ = _ := hx691_0
          have nhx691_1_ : (wr.drewN nq).cell? _ = _ := hx691_1
          clear HB hx687_0 hx687_1 hx689_0 hx689_1 hx691_0 hx691_1 hq0_ hq1_ hq2_ hq3_ hq4_ hq5_
          have HB := nHB_
          have hx687_0 := nhx687_0_
          have hx687_1 := nhx687_1_
          have hx689_0 := nhx689_0_
          have hx689_1 := nhx689_1_
          have hx691_0 := nhx691_0_
          have hx691_1 := nhx691_1_
          clear nHB_ nhx687_0_ nhx687_1_ nhx689_0_ nhx689_1_ nhx691_0_ nhx691_1_
          generalize wr.drewN nq = w17 at HB hx687_0 hx687_1 hx689_0 hx689_1 hx691_0 hx691_1 ⊢
          try go_wp2
          go_roundg k1
          case measure => have := HK1.out; omega
          case rel => exact ⟨(wrap64 (x3_1 + 1)), (by first | rfl | (simp; done) | (simp [*]; done)), H', ⟨by have := HK1.out; omega⟩, ⟨by repeat (first | (with_reducible first | exact HB.out | apply below_alloc | apply pw_below_drewN | apply below_drew1) | exact HB.out)⟩⟩
        ·
         rw [if_neg c9] at H
         have c9b0 : (((rd_T151 l0 x3_1).f0) == 0) = false := beq_eq_false_iff_ne.mpr c9
         have c9b1 : (((rd_T151 l0 x3_1).f0) != 0) = true := bne_iff_ne.mpr c9
         obtain rfl := Option.some.inj H
         try go_wp2
         have n0_ := Aside0.mk (below_drew1 HB.out)
         clear HB
         have HB := n0_
         clear n0_
         have p687 : 0 ≤ (x3_1 : Int) := of_decide_eq_true (by first | (with_reducible assumption) | assumption)
         have q687 : x3_1 < (l0.length : Int) := of_decide_eq_true (by first | (with_reducible assumption) | assumption)
         obtain ⟨ad687, e687, hx687_0, hx687_1⟩ := at_T151 HR0.out x3_1 p687 q687
         have hw687_1 := hx687_1
         have hw687_0 := hx687_0
         cases e687
         replace hx687_0 := (HB.out.cell (World.block_lt_of_cell? w _ hx687_0)).trans hx687_0
         replace hx687_1 := (HB.out.cell (World.block_lt_of_cell? w _ hx687_1)).trans hx687_1
         replace p687 := eq_true p687
         replace q687 := eq_true q687
         have p689 : 0 ≤ (x3_1 : Int) := of_decide_eq_true (by first | (with_reducible assumption) | assumption)
         have q689 : x3_1 < (l0.length : Int) := of_decide_eq_true (by first | (with_reducible assumption) | assumption)
         obtain ⟨ad689, e689, hx689_0, hx689_1⟩ := at_T151 HR0.out x3_1 p689 q689
         have hw689_1 := hx689_1
         have hw689_0 := hx689_0
         obtain rfl : ad687 = ad689 := (by injection e689)
         replace hx689_0 := (HB.out.cell (World.block_lt_of_cell? w _ hx689_0)).trans hx689_0
         replace hx689_1 := (HB.out.cell (World.block_lt_of_cell? w _ hx689_1)).trans hx689_1
         replace p689 := eq_true p689
         replace q689 := eq_true q689
         have p691 : 0 ≤ (x3_1 : Int) := of_decide_eq_true (by first | (with_reducible assumption) | assumption)
         have q691 : x3_1 < (l0.length : Int) := of_decide_eq_true (by first | (with_reducible assumption) | assumption)
         obtain ⟨ad691, e691, hx691_0, hx691_1⟩ := at_T151 HR0.out x3_1 p691 q691
         have hw691_1 := hx691_1
         have hw691_0 := hx691_0
         obtain rfl : ad687 = ad691 := (by injection e691)
         replace hx691_0 := (HB.out.cell (World.block_lt_of_cell? w _ hx691_0)).trans hx691_0
         replace hx691_1 := (HB.out.cell (World.block_lt_of_cell? w _ hx691_1)).trans hx691_1
         replace p691 := eq_true p691
         replace q691 := eq_true q691
         have hq0_ : wr.cell? (ad687.add ((x3_1).toNat * 2)) = some (.int .i64 ((rd_T151 l0 x3_1).f0)) := ((HB.out.cell (World.block_lt_of_cell? w _ hw687_0)).trans hw687_0)
         have hq1_ : wr.cell? ⟨(ad687.add ((x3_1).toNat * 2)).block, (ad687.add ((x3_1).toNat * 2)).off + 1, none⟩ = some (.int .i64 ((rd_T151 l0 x3_1).f1)) := ((HB.out.cell (World.block_lt_of_cell? w _ hw687_1)).trans hw687_1)
         have hq2_ : wr.cell? (ad687.add ((x3_1).toNat * 2)) = some (.int .i64 ((rd_T151 l0 x3_1).f0)) := ((HB.out.cell (World.block_lt_of_cell? w _ hw689_0)).trans hw689_0)
         have hq3_ : wr.cell? ⟨(ad687.add ((x3_1).toNat * 2)).block, (ad687.add ((x3_1).toNat * 2)).off + 1, none⟩ = some (.int .i64 ((rd_T151 l0 x3_1).f1)) := ((HB.out.cell (World.block_lt_of_cell? w _ hw689_1)).trans hw689_1)
         have hq4_ : wr.cell? (ad687.add ((x3_1).toNat * 2)) = some (.int .i64 ((rd_T151 l0 x3_1).f0)) := ((HB.out.cell (World.block_lt_of_cell? w _ hw691_0)).trans hw691_0)
         have hq5_ : wr.cell? ⟨(ad687.add ((x3_1).toNat * 2)).block, (ad687.add ((x3_1).toNat * 2)).off + 1, none⟩ = some (.int .i64 ((rd_T151 l0 x3_1).f1)) := ((HB.out.cell (World.block_lt_of_cell? w _ hw691_1)).trans hw691_1)
         go_quiet ((first | (go_at_call 110; apply Calls.quiet_of; ((with_reducible refine (spec_l1In.calls ((rd_T151 l0 x3_1).f1) 20 300 true _ A4.out).mono ?_); exact fun _ _ h_ => ⟨h_.1, h_.2.out⟩)) | (go_at_call 110; apply Calls.quiet_of; ((with_reducible refine (spec_l1In.calls ((rd_T151 l0 x3_1).f0) 0 2000 true _ A6.out).mono ?_); exact fun _ _ h_ => ⟨h_.1, h_.2.out⟩))))
         have nHB_ := Aside0.mk (pw_below_drewN (W := wr) ⟨HB.out.os, HB.out.tape, HB.out.output, HB.out.size, HB.out.block⟩ nq)
         have nhx687_0_ : (wr.drewN nq).cell? _ = _ := hx687_0
         have nhx687_1_ : (wr.drewN nq).cell? _ = _ := hx687_1
         have nhx689_0_ : (wr.drewN nq).cell? _ = _ := hx689_0
         have nhx689_1_ : (wr.drewN nq).cell? _ = _ := hx689_1
         have nhx691_0_ : (wr.drewN nq).cell? _ = _ := hx691_0
         have nhx691_1_ : (wr.drewN nq).cell? _ = _ := hx691_1
         clear HB hx687_0 hx687_1 hx689_0 hx689_1 hx691_0 hx691_1 hq0_ hq1_ hq2_ hq3_ hq4_ hq5_
         have HB := nHB_
         have hx687_0 := nhx687_0_
         have hx687_1 := nhx687_1_
         have hx689_0 := nhx689_0_
         have hx689_1 := nhx689_1_
         have hx691_0 := nhx691_0_
         have hx691_1 := nhx691_1_
         clear nHB_ nhx687_0_ nhx687_1_ nhx689_0_ nhx689_1_ nhx691_0_ nhx691_1_
         generalize wr.drewN nq = w18 at HB hx687_0 hx687_1 hx689_0 hx689_1 hx691_0 hx691_1 ⊢
         try go_wp2
         go_ret
         exact ⟨by first | rfl | (simp [errW_none, errW_some] <;> rfl) | (simp [*, errW_none, errW_some] <;> rfl), by repeat (first | (with_reducible first | exact HB.out | apply below_alloc | apply pw_below_drewN | apply below_drew1) | exact HB.out)⟩
       ·
        rw [if_neg c8] at H
        have c8b0 : (x3_1 == 0) = false := beq_eq_false_iff_ne.mpr c8
        have c8b1 : (x3_1 != 0) = true := bne_iff_ne.mpr c8
        by_cases c19 : x3_1 > 0
        ·
         rw [if_pos c19] at H
         have c19b0 : decide (0 < x3_1) = true := decide_eq_true c19
         clear c19
         obtain ⟨ji20, hji20⟩ : ∃ j_ : Int, (wrap64 (x3_1 - 1)) = j_ := ⟨_, rfl⟩
         replace H : (if 0 ≤ (ji20) then (if (ji20) < (l0.length : Int) then (if ((rd_T151 l0 (ji20)).f0) ≥ ((rd_T151 l0 x3_1).f0) then (some false) else (spec_IsTempo.l0 k1 l0 (wrap64 (x3_1 + 1)))) else (none)) else (none)) = some r := by first | (rw [hji20] at H; exact H) | (simp only [hji20] at H ⊢; exact H)
         (try rw [hji20] at A4)
         (try rw [hji20] at A6)
         have hji20w : (IntKind.i64.wrap (x3_1 - 1)) = ji20 := (i64_w _).trans hji20
         by_cases c21 : 0 ≤ (ji20)
         ·
          rw [if_pos c21] at H
          have c21b0 : decide (0 ≤ (ji20)) = true := decide_eq_true c21
          clear c21
          by_cases c22 : (ji20) < (l0.length : Int)
          ·
           rw [if_pos c22] at H
           have c22b0 : decide ((ji20) < (l0.length : Int)) = true := decide_eq_true c22
           clear c22
           by_cases c23 : ((rd_T151 l0 (ji20)).f0) ≥ ((rd_T151 l0 x3_1).f0)
           ·
            rw [if_pos c23] at H
            have c23b0 : decide (((rd_T151 l0 x3_1).f0) ≤ ((rd_T151 l0 (ji20)).f0)) = true := decide_eq_true c23
            clear c23
            obtain rfl := Option.some.inj H
            try go_wp2
            have n0_ := Aside0.mk (below_drew1 HB.out)
            clear HB
            have HB := n0_
            clear n0_
            have p687 : 0 ≤ (x3_1 : Int) := of_decide_eq_true (by first | (with_reducible assumption) | assumption)
            have q687 : x3_1 < (l0.length : Int) := of_decide_eq_true (by first | (with_reducible assumption) | assumption)
            obtain ⟨ad687, e687, hx687_0, hx687_1⟩ := at_T151 HR0.out x3_1 p687 q687
            have hw687_1 := hx687_1
            have hw687_0 := hx687_0
            cases e687
            replace hx687_0 := (HB.out.cell (World.block_lt_of_cell? w _ hx687_0)).trans hx687_0
            replace hx687_1 := (HB.out.cell (World.block_lt_of_cell? w _ hx687_1)).trans hx687_1
            replace p687 := eq_true p687
            replace q687 := eq_true q687
            have p689 : 0 ≤ (x3_1 : Int) := of_decide_eq_true (by first | (with_reducible assumption) | assumption)
            have q689 : x3_1 < (l0.length : Int) := of_decide_eq_true (by first | (with_reducible assumption) | assumption)
            obtain ⟨ad689, e689, hx689_0, hx689_1⟩ := at_T151 HR0.out x3_1 p689 q689
            have hw689_1 := hx689_1
            have hw689_0 := hx689_0
            obtain rfl : ad687 = ad689 := (by injection e689)
            replace hx689_0 := (HB.out.cell (World.block_lt_of_cell? w _ hx689_0)).trans hx689_0
            replace hx689_1 := (HB.out.cell (World.block_lt_of_cell? w _ hx689_1)).trans hx689_1
            replace p689 := eq_true p689
            replace q689 := eq_true q689
            have p694 : 0 ≤ ((ji20) : Int) := of_decide_eq_true (by first | (with_reducible assumption) | assumption)
            have q694 : (ji20) < (l0.length : Int) := of_decide_eq_true (by first | (with_reducible assumption) | assumption)
            obtain ⟨ad694, e694, hx694_0, hx694_1⟩ := at_T151 HR0.out (ji20) p694 q694
            have hw694_1 := hx694_1
            have hw694_0 := hx694_0
            obtain rfl : ad687 = ad694 := (by injection e694)
            replace hx694_0 := (HB.out.cell (World.block_lt_of_cell? w _ hx694_0)).trans hx694_0
            replace hx694_1 := (HB.out.cell (World.block_lt_of_cell? w _ hx694_1)).trans hx694_1
            replace p694 := eq_true p694
            replace q694 := eq_true q694
            have p695 : 0 ≤ (x3_1 : Int) := of_decide_eq_true (by first | (with_reducible assumption) | assumption)
            have q695 : x3_1 < (l0.length : Int) := of_decide_eq_true (by first | (with_reducible assumption) | assumption)
            obtain ⟨ad695, e695, hx695_0, hx695_1⟩ := at_T151 HR0.out x3_1 p695 q695
            have hw695_1 := hx695_1
            have hw695_0 := hx695_0
            obtain rfl : ad687 = ad695 := (by injection e695)
            replace hx695_0 := (HB.out.cell (World.block_lt_of_cell? w _ hx695_0)).trans hx695_0
            replace hx695_1 := (HB.out.cell (World.block_lt_of_cell? w _ hx695_1)).trans hx695_1
            replace p695 := eq_true p695
            replace q695 := eq_true q695
            have hq0_ : wr.cell? (ad687.add ((x3_1).toNat * 2)) = some (.int .i64 ((rd_T151 l0 x3_1).f0)) := ((HB.out.cell (World.block_lt_of_cell? w _ hw687_0)).trans hw687_0)
            have hq1_ : wr.cell? ⟨(ad687.add ((x3_1).toNat * 2)).block, (ad687.add ((x3_1).toNat * 2)).off + 1, none⟩ = some (.int .i64 ((rd_T151 l0 x3_1).f1)) := ((HB.out.cell (World.block_lt_of_cell? w _ hw687_1)).trans hw687_1)
            have hq2_ : wr.cell? (ad687.add ((x3_1).toNat * 2)) = some (.int .i64 ((rd_T151 l0 x3_1).f0)) := ((HB.out.cell (World.block_lt_of_cell? w _ hw689_0)).trans hw689_0)
            have hq3_ : wr.cell? ⟨(ad687.add ((x3_1).toNat * 2)).block, (ad687.add ((x3_1).toNat * 2)).off + 1, none⟩ = some (.int .i64 ((rd_T151 l0 x3_1).f1)) := ((HB.out.cell (World.block_lt_of_cell? w _ hw689_1)).trans hw689_1)
            have hq4_ : wr.cell? (ad687.add (((ji20)).toNat * 2)) = some (.int .i64 ((rd_T151 l0 (ji20)).f0)) := ((HB.out.cell (World.block_lt_of_cell? w _ hw694_0)).trans hw694_0)
            have hq5_ : wr.cell? ⟨(ad687.add (((ji20)).toNat * 2)).block, (ad687.add (((ji20)).toNat * 2)).off + 1, none⟩ = some (.int .i64 ((rd_T151 l0 (ji20)).f1)) := ((HB.out.cell (World.block_lt_of_cell? w _ hw694_1)).trans hw694_1)
            have hq6_ : wr.cell? (ad687.add ((x3_1).toNat * 2)) = some (.int .i64 ((rd_T151 l0 x3_1).f0)) := ((HB.out.cell (World.block_lt_of_cell? w _ hw695_0)).trans hw695_0)
            have hq7_ : wr.cell? ⟨(ad687.add ((x3_1).toNat * 2)).block, (ad687.add ((x3_1).toNat * 2)).off + 1, none⟩ = some (.int .i64 ((rd_T151 l0 x3_1).f1)) := ((HB.out.cell (World.block_lt_of_cell? w _ hw695_1)).trans hw695_1)
            go_quiet ((first | (go_at_call 110; apply Calls.quiet_of; ((with_reducible refine (spec_l1In.calls ((rd_T151 l0 x3_1).f1) 20 300 true _ A4.out).mono ?_); exact fun _ _ h_ => ⟨h_.1, h_.2.out⟩)) | (go_at_call 110; apply Calls.quiet_of; ((with_reducible refine (spec_l1In.calls ((rd_T151 l0 x3_1).f0) 0 2000 true _ A6.out).mono ?_); exact fun _ _ h_ => ⟨h_.1, h_.2.out⟩))))
            have nHB_ := Aside0.mk (pw_below_drewN (W := wr) ⟨HB.out.os, HB.out.tape, HB.out.output, HB.out.size, HB.out.block⟩ nq)
            have nhx687_0_ : (wr.drewN nq).cell? _ = _ := hx687_0
            have nhx687_1_ : (wr.drewN nq).cell? _ = _ := hx687_1
            have nhx689_0_ : (wr.drewN nq).cell? _ = _ := hx689_0
            have nhx689_1_ : (wr.drewN nq).cell? _ = _ := hx689_1
            have nhx694_0_ : (wr.drewN nq).cell? _ = _ := hx694_0
            have nhx694_1_ : (wr.drewN nq).cell? _ = _ := hx694_1
            have nhx695_0_ : (wr.drewN nq).cell? _ = _ := hx695_0
            have nhx695_1_ : (wr.drewN nq).cell? _ = _ := hx695_1
            clear HB hx687_0 hx687_1 hx689_0 hx689_1 hx694_0 hx694_1 hx695_0 hx695_1 hq0_ hq1_ hq2_ hq3_ hq4_ hq5_ hq6_ hq7_
            have HB := nHB_
            have hx687_0 := nhx687_0_
            have hx687_1 := nhx687_1_
            have hx689_0 := nhx689_0_
            have hx689_1 := nhx689_1_
            have hx694_0 := nhx694_0_
            have hx694_1 := nhx694_1_
            have hx695_0 := nhx695_0_
            have hx695_1 := nhx695_1_
            clear nHB_ nhx687_0_ nhx687_1_ nhx689_0_ nhx689_1_ nhx694_0_ nhx694_1_ nhx695_0_ nhx695_1_
            generalize wr.drewN nq = w24 at HB hx687_0 hx687_1 hx689_0 hx689_1 hx694_0 hx694_1 hx695_0 hx695_1 ⊢
            try go_wp2
            go_ret
            exact ⟨by first | rfl | (simp [errW_none, errW_some] <;> rfl) | (simp only [← hji20]; first | rfl | (simp [errW_none, errW_some] <;> rfl)) | (simp [*, errW_none, errW_some] <;> rfl), by repeat (first | (with_reducible first | exact HB.out | apply below_alloc | apply pw_below_drewN | apply below_drew1) | exact HB.out)⟩
           ·
            rw [if_neg c23] at H
            have c23b0 : decide (((rd_T151 l0 x3_1).f0) ≤ ((rd_T151 l0 (ji20)).f0)) = false := decide_eq_false c23
            clear c23
            have H' := Aside0.mk H
            clear H
            try go_wp2
            have n0_ := Aside0.mk (below_drew1 HB.out)
            clear HB
            have HB := n0_
            clear n0_
            have p687 : 0 ≤ (x3_1 : Int) := of_decide_eq_true (by first | (with_reducible assumption) | assumption)
            have q687 : x3_1 < (l0.length : Int) := of_decide_eq_true (by first | (with_reducible assumption) | assumption)
            obtain ⟨ad687, e687, hx687_0, hx687_1⟩ := at_T151 HR0.out x3_1 p687 q687
            have hw687_1 := hx687_1
            have hw687_0 := hx687_0
            cases e687
            replace hx687_0 := (HB.out.cell (World.block_lt_of_cell? w _ hx687_0)).trans hx687_0
            replace hx687_1 := (HB.out.cell (World.block_lt_of_cell? w _ hx687_1)).trans hx687_1
            replace p687 := eq_true p687
            replace q687 := eq_true q687
            have p689 : 0 ≤ (x3_1 : Int) := of_decide_eq_true (by first | (with_reducible assumption) | assumption)
            have q689 : x3_1 < (l0.length : Int) := of_decide_eq_true (by first | (with_reducible assumption) | assumption)
            obtain ⟨ad689, e689, hx689_0, hx689_1⟩ := at_T151 HR0.out x3_1 p689 q689
            have hw689_1 := hx689_1
            have hw689_0 := hx689_0
            obtain rfl : ad687 = ad689 := (by injection e689)
            replace hx689_0 := (HB.out.cell (World.block_lt_of_cell? w _ hx689_0)).trans hx689_0
            replace hx689_1 := (HB.out.cell (World.block_lt_of_cell? w _ hx689_1)).trans hx689_1
            replace p689 := eq_true p689
            replace q689 := eq_true q689
            have p694 : 0 ≤ ((ji20) : Int) := of_decide_eq_true (by first | (with_reducible assumption) | assumption)
            have q694 : (ji20) < (l0.length : Int) := of_decide_eq_true (by first | (with_reducible assumption) | assumption)
            obtain ⟨ad694, e694, hx694_0, hx694_1⟩ := at_T151 HR0.out (ji20) p694 q694
            have hw694_1 := hx694_1
            have hw694_0 := hx694_0
            obtain rfl : ad687 = ad694 := (by injection e694)
            replace hx694_0 := (HB.out.cell (World.block_lt_of_cell? w _ hx694_0)).trans hx694_0
            replace hx694_1 := (HB.out.cell (World.block_lt_of_cell? w _ hx694_1)).trans hx694_1
            replace p694 := eq_true p694
            replace q694 := eq_true q694
            have p695 : 0 ≤ (x3_1 : Int) := of_decide_eq_true (by first | (with_reducible assumption) | assumption)
            have q695 : x3_1 < (l0.length : Int) := of_decide_eq_true (by first | (with_reducible assumption) | assumption)
            obtain ⟨ad695, e695, hx695_0, hx695_1⟩ := at_T151 HR0.out x3_1 p695 q695
            have hw695_1 := hx695_1
            have hw695_0 := hx695_0
            obtain rfl : ad687 = ad695 := (by injection e695)
            replace hx695_0 := (HB.out.cell (World.block_lt_of_cell? w _ hx695_0)).trans hx695_0
            replace hx695_1 := (HB.out.cell (World.block_lt_of_cell? w _ hx695_1)).trans hx695_1
            replace p695 := eq_true p695
            replace q695 := eq_true q695
            have hq0_ : wr.cell? (ad687.add ((x3_1).toNat * 2)) = some (.int .i64 ((rd_T151 l0 x3_1).f0)) := ((HB.out.cell (World.block_lt_of_cell? w _ hw687_0)).trans hw687_0)
            have hq1_ : wr.cell? ⟨(ad687.add ((x3_1).toNat * 2)).block, (ad687.add ((x3_1).toNat * 2)).off + 1, none⟩ = some (.int .i64 ((rd_T151 l0 x3_1).f1)) := ((HB.out.cell (World.block_lt_of_cell? w _ hw687_1)).trans hw687_1)
            have hq2_ : wr.cell? (ad687.add ((x3_1).toNat * 2)) = some (.int .i64 ((rd_T151 l0 x3_1).f0)) := ((HB.out.cell (World.block_lt_of_cell? w _ hw689_0)).trans hw689_0)
            have hq3_ : wr.cell? ⟨(ad687.add ((x3_1).toNat * 2)).block, (ad687.add ((x3_1).toNat * 2)).off + 1, none⟩ = some (.int .i64 ((rd_T151 l0 x3_1).f1)) := ((HB.out.cell (World.block_lt_of_cell? w _ hw689_1)).trans hw689_1)
            have hq4_ : wr.cell? (ad687.add (((ji20)).toNat * 2)) = some (.int .i64 ((rd_T151 l0 (ji20)).f0)) := ((HB.out.cell (World.block_lt_of_cell? w _ hw694_0)).trans hw694_0)
            have hq5_ : wr.cell? ⟨(ad687.add (((ji20)).toNat * 2)).block, (ad687.add (((ji20)).toNat * 2)).off + 1, none⟩ = some (.int .i64 ((rd_T151 l0 (ji20)).f1)) := ((HB.out.cell (World.block_lt_of_cell? w _ hw694_1)).trans hw694_1)
            have hq6_ : wr.cell? (ad687.add ((x3_1).toNat * 2)) = some (.int .i64 ((rd_T151 l0 x3_1).f0)) := ((HB.out.cell (World.block_lt_of_cell? w _ hw695_0)).trans hw695_0)
            have hq7_ : wr.cell? ⟨(ad687.add ((x3_1).toNat * 2)).block, (ad687.add ((x3_1).toNat * 2)).off + 1, none⟩ = some (.int .i64 ((rd_T151 l0 x3_1).f1)) := ((HB.out.cell (World.block_lt_of_cell? w _ hw695_1)).trans hw695_1)
            go_quiet ((first | (go_at_call 110; apply Calls.quiet_of; ((with_reducible refine (spec_l1In.calls ((rd_T151 l0 x3_1).f1) 20 300 true _ A4.out).mono ?_); exact fun _ _ h_ => ⟨h_.1, h_.2.out⟩)) | (go_at_call 110; apply Calls.quiet_of; ((with_reducible refine (spec_l1In.calls ((rd_T151 l0 x3_1).f0) 0 2000 true _ A6.out).mono ?_); exact fun _ _ h_ => ⟨h_.1, h_.2.out⟩))))
            have nHB_ := Aside0.mk (pw_below_drewN (W := wr) ⟨HB.out.os, HB.out.tape, HB.out.output, HB.out.size, HB.out.block⟩ nq)
            have nhx687_0_ : (wr.drewN nq).cell? _ = _ := hx687_0
            have nhx687_1_ : (wr.drewN nq).cell? _ = _ := hx687_1
            have nhx689_0_ : (wr.drewN nq).cell? _ = _ := hx689_0
            have nhx689_1_ : (wr.drewN nq).cell? _ = _ := hx689_1
            have nhx694_0_ : (wr.drewN nq).cell? _ = _ := hx694_0
            have nhx694_1_ : (wr.drewN nq).cell? _ = _ := hx694_1
            have nhx695_0_ : (wr.drewN nq).cell? _ = _ := hx695_0
            have nhx695_1_ : (wr.drewN nq).cell? _ = _ := hx695_1
            clear HB hx687_0 hx687_1 hx689_0 hx689_1 hx694_0 hx694_1 hx695_0 hx695_1 hq0_ hq1_ hq2_ hq3_ hq4_ hq5_ hq6_ hq7_
            have HB := nHB_
            have hx687_0 := nhx687_0_
            have hx687_1 := nhx687_1_
            have hx689_0 := nhx689_0_
            have hx689_1 := nhx689_1_
            have hx694_0 := nhx694_0_
            have hx694_1 := nhx694_1_
            have hx695_0 := nhx695_0_
            have hx695_1 := nhx695_1_
            clear nHB_ nhx687_0_ nhx687_1_ nhx689_0_ nhx689_1_ nhx694_0_ nhx694_1_ nhx695_0_ nhx695_1_
            generalize wr.drewN nq = w25 at HB hx687_0 hx687_1 hx689_0 hx689_1 hx694_0 hx694_1 hx695_0 hx695_1 ⊢
            try go_wp2
            go_roundg k1
            case measure => have := HK1.out; omega
            case rel => exact ⟨(wrap64 (x3_1 + 1)), (by first | rfl | (simp; done) | (simp [*]; done)), H', ⟨by have := HK1.out; omega⟩, ⟨by repeat (first | (with_reducible first | exact HB.out | apply below_alloc | apply pw_below_drewN | apply below_drew1) | exact HB.out)⟩⟩
          ·
           rw [if_neg c22] at H
           exact absurd H (by simp)
         ·
          rw [if_neg c21] at H
          exact absurd H (by simp)
        ·
         rw [if_neg c19] at H
         have c19b0 : decide (0 < x3_1) = false := decide_eq_false c19
         clear c19
         have H' := Aside0.mk H
         clear H
         try go_wp2
         have n0_ := Aside0.mk (below_drew1 HB.out)
         clear HB
         have HB := n0_
         clear n0_
         have p687 : 0 ≤ (x3_1 : Int) := of_decide_eq_true (by first | (with_reducible assumption) | assumption)
         have q687 : x3_1 < (l0.length : Int) := of_decide_eq_true (by first | (with_reducible assumption) | assumption)
         obtain ⟨ad687, e687, hx687_0, hx687_1⟩ := at_T151 HR0.out x3_1 p687 q687
         have hw687_1 := hx687_1
         have hw687_0 := hx687_0
         cases e687
         replace hx687_0 := (HB.out.cell (World.block_lt_of_cell? w _ hx687_0)).trans hx687_0
         replace hx687_1 := (HB.out.cell (World.block_lt_of_cell? w _ hx687_1)).trans hx687_1
         replace p687 := eq_true p687
         replace q687 := eq_true q687
         have p689 : 0 ≤ (x3_1 : Int) := of_decide_eq_true (by first | (with_reducible assumption) | assumption)
         have q689 : x3_1 < (l0.length : Int) := of_decide_eq_true (by first | (with_reducible assumption) | assumption)
         obtain ⟨ad689, e689, hx689_0, hx689_1⟩ := at_T151 HR0.out x3_1 p689 q689
         have hw689_1 := hx689_1
         have hw689_0 := hx689_0
         obtain rfl : ad687 = ad689 := (by injection e689)
         replace hx689_0 := (HB.out.cell (World.block_lt_of_cell? w _ hx689_0)).trans hx689_0
         replace hx689_1 := (HB.out.cell (World.block_lt_of_cell? w _ hx689_1)).trans hx689_1
         replace p689 := eq_true p689
         replace q689 := eq_true q689
         have hq0_ : wr.cell? (ad687.add ((x3_1).toNat * 2)) = some (.int .i64 ((rd_T151 l0 x3_1).f0)) := ((HB.out.cell (World.block_lt_of_cell? w _ hw687_0)).trans hw687_0)
         have hq1_ : wr.cell? ⟨(ad687.add ((x3_1).toNat * 2)).block, (ad687.add ((x3_1).toNat * 2)).off + 1, none⟩ = some (.int .i64 ((rd_T151 l0 x3_1).f1)) := ((HB.out.cell (World.block_lt_of_cell? w _ hw687_1)).trans hw687_1)
         have hq2_ : wr.cell? (ad687.add ((x3_1).toNat * 2)) = some (.int .i64 ((rd_T151 l0 x3_1).f0)) := ((HB.out.cell (World.block_lt_of_cell? w _ hw689_0)).trans hw689_0)
         have hq3_ : wr.cell? ⟨(ad687.add ((x3_1).toNat * 2)).block, (ad687.add ((x3_1).toNat * 2)).off + 1, none⟩ = some (.int .i64 ((rd_T151 l0 x3_1).f1)) := ((HB.out.cell (World.block_lt_of_cell? w _ hw689_1)).trans hw689_1)
         go_quiet ((first | (go_at_call 110; apply Calls.quiet_of; ((with_reducible refine (spec_l1In.calls ((rd_T151 l0 x3_1).f1) 20 300 true _ A4.out).mono ?_); exact fun _ _ h_ => ⟨h_.1, h_.2.out⟩)) | (go_at_call 110; apply Calls.quiet_of; ((with_reducible refine (spec_l1In.calls ((rd_T151 l0 x3_1).f0) 0 2000 true _ A6.out).mono ?_); exact fun _ _ h_ => ⟨h_.1, h_.2.out⟩))))
         have nHB_ := Aside0.mk (pw_below_drewN (W := wr) ⟨HB.out.os, HB.out.tape, HB.out.output, HB.out.size, HB.out.block⟩ nq)
         have nhx687_0_ : (wr.drewN nq).cell? _ = _ := hx687_0
         have nhx687_1_ : (wr.drewN nq).cell? _ = _ := hx687_1
         have nhx689_0_ : (wr.drewN nq).cell? _ = _ := hx689_0
         have nhx689_1_ : (wr.drewN nq).cell? _ = _ := hx689_1
         clear HB hx687_0 hx687_1 hx689_0 hx689_1 hq0_ hq1_ hq2_ hq3_
         have HB := nHB_
         have hx687_0 := nhx687_0_
         have hx687_1 := nhx687_1_
         have hx689_0 := nhx689_0_
         have hx689_1 := nhx689_1_
         clear nHB_ nhx687_0_ nhx687_1_ nhx689_0_ nhx689_1_
         generalize wr.drewN nq = w26 at HB hx687_0 hx687_1 hx689_0 hx689_1 ⊢
         try go_wp2
         go_roundg k1
         case measure => have := HK1.out; omega
         case rel => exact ⟨(wrap64 (x3_1 + 1)), (by first | rfl | (simp; done) | (simp [*]; done)), H', ⟨by have := HK1.out; omega⟩, ⟨by repeat (first | (with_reducible first | exact HB.out | apply below_alloc | apply pw_below_drewN | apply below_drew1) | exact HB.out)⟩⟩
      ·
       replace c7 := Bool.eq_false_iff.mpr c7
       subst c7
       rw [if_neg (show ¬ (false = true) by decide)] at H
       obtain rfl := Option.some.inj H
       try go_wp2
       have n0_ := Aside0.mk (below_drew1 HB.out)
       clear HB
       have HB := n0_
       clear n0_
       have p687 : 0 ≤ (x3_1 : Int) := of_decide_eq_true (by first | (with_reducible assumption) | assumption)
       have q687 : x3_1 < (l0.length : Int) := of_decide_eq_true (by first | (with_reducible assumption) | assumption)
       obtain ⟨ad687, e687, hx687_0, hx687_1⟩ := at_T151 HR0.out x3_1 p687 q687
       have hw687_1 := hx687_1
       have hw687_0 := hx687_0
       cases e687
       replace hx687_0 := (HB.out.cell (World.block_lt_of_cell? w _ hx687_0)).trans hx687_0
       replace hx687_1 := (HB.out.cell (World.block_lt_of_cell? w _ hx687_1)).trans hx687_1
       replace p687 := eq_true p687
       replace q687 := eq_true q687
       have p689 : 0 ≤ (x3_1 : Int) := of_decide_eq_true (by first | (with_reducible assumption) | assumption)
       have q689 : x3_1 < (l0.length : Int) := of_decide_eq_true (by first | (with_reducible assumption) | assumption)
       obtain ⟨ad689, e689, hx689_0, hx689_1⟩ := at_T151 HR0.out x3_1 p689 q689
       have hw689_1 := hx689_1
       have hw689_0 := hx689_0
       obtain rfl : ad687 = ad689 := (by injection e689)
       replace hx689_0 := (HB.out.cell (World.block_lt_of_cell? w _ hx689_0)).trans hx689_0
       replace hx689_1 := (HB.out.cell (World.block_lt_of_cell? w _ hx689_1)).trans hx689_1
       replace p689 := eq_true p689
       replace q689 := eq_true q689
       have hq0_ : wr.cell? (ad687.add ((x3_1).toNat * 2)) = some (.int .i64 ((rd_T151 l0 x3_1).f0)) := ((HB.out.cell (World.block_lt_of_cell? w _ hw687_0)).trans hw687_0)
       have hq1_ : wr.cell? ⟨(ad687.add ((x3_1).toNat * 2)).block, (ad687.add ((x3_1).toNat * 2)).off + 1, none⟩ = some (.int .i64 ((rd_T151 l0 x3_1).f1)) := ((HB.out.cell (World.block_lt_of_cell? w _ hw687_1)).trans hw687_1)
       have hq2_ : wr.cell? (ad687.add ((x3_1).toNat * 2)) = some (.int .i64 ((rd_T151 l0 x3_1).f0)) := ((HB.out.cell (World.block_lt_of_cell? w _ hw689_0)).trans hw689_0)
       have hq3_ : wr.cell? ⟨(ad687.add ((x3_1).toNat * 2)).block, (ad687.add ((x3_1).toNat * 2)).off + 1, none⟩ = some (.int .i64 ((rd_T151 l0 x3_1).f1)) := ((HB.out.cell (World.block_lt_of_cell? w _ hw689_1)).trans hw689_1)
       go_quiet ((first | (go_at_call 110; apply Calls.quiet_of; ((with_reducible refine (spec_l1In.calls ((rd_T151 l0 x3_1).f1) 20 300 true _ A4.out).mono ?_); exact fun _ _ h_ => ⟨h_.1, h_.2.out⟩)) | (go_at_call 110; apply Calls.quiet_of; ((with_reducible refine (spec_l1In.calls ((rd_T151 l0 x3_1).f0) 0 2000 false _ A6.out).mono ?_); exact fun _ _ h_ => ⟨h_.1, h_.2.out⟩))))
       have nHB_ := Aside0.mk (pw_below_drewN (W := wr) ⟨HB.out.os, HB.out.tape, HB.out.output, HB.out.size, HB.out.block⟩ nq)
       have nhx687_0_ : (wr.drewN nq).cell? _ = _ := hx687_0
       have nhx687_1_ : (wr.drewN nq).cell? _ = _ := hx687_1
       have nhx689_0_ : (wr.drewN nq).cell? _ = _ := hx689_0
       have nhx689_1_ : (wr.drewN nq).cell? _ = _ := hx689_1
       clear HB hx687_0 hx687_1 hx689_0 hx689_1 hq0_ hq1_ hq2_ hq3_
       have HB := nHB_
       have hx687_0 := nhx687_0_
       have hx687_1 := nhx687_1_
       have hx689_0 := nhx689_0_
       have hx689_1 := nhx689_1_
       clear nHB_ nhx687_0_ nhx687_1_ nhx689_0_ nhx689_1_
       generalize wr.drewN nq = w27 at HB hx687_0 hx687_1 hx689_0 hx689_1 ⊢
       try go_wp2
       go_ret
       exact ⟨by first | rfl | (simp [errW_none, errW_some] <;> rfl) | (simp [*, errW_none, errW_some] <;> rfl), by repeat (first | (with_reducible first | exact HB.out | apply below_alloc | apply pw_below_drewN | apply below_drew1) | exact HB.out)⟩
     ·
      replace c5 := Bool.eq_false_iff.mpr c5
      subst c5
      rw [if_neg (show ¬ (false = true) by decide)] at H
      obtain rfl := Option.some.inj H
      try go_wp2
      have n0_ := Aside0.mk (below_drew1 HB.out)
      clear HB
      have HB := n0_
      clear n0_
      have p687 : 0 ≤ (x3_1 : Int) := of_decide_eq_true (by first | (with_reducible assumption) | assumption)
      have q687 : x3_1 < (l0.length : Int) := of_decide_eq_true (by first | (with_reducible assumption) | assumption)
      obtain ⟨ad687, e687, hx687_0, hx687_1⟩ := at_T151 HR0.out x3_1 p687 q687
      have hw687_1 := hx687_1
      have hw687_0 := hx687_0
      cases e687
      replace hx687_0 := (HB.out.cell (World.block_lt_of_cell? w _ hx687_0)).trans hx687_0
      replace hx687_1 := (HB.out.cell (World.block_lt_of_cell? w _ hx687_1)).trans hx687_1
      replace p687 := eq_true p687
      replace q687 := eq_true q687
      have hq0_ : wr.cell? (ad687.add ((x3_1).toNat * 2)) = some (.int .i64 ((rd_T151 l0 x3_1).f0)) := ((HB.out.cell (World.block_lt_of_cell? w _ hw687_0)).trans hw687_0)
      have hq1_ : wr.cell? ⟨(ad687.add ((x3_1).toNat * 2)).block, (ad687.add ((x3_1).toNat * 2)).off + 1, none⟩ = some (.int .i64 ((rd_T151 l0 x3_1).f1)) := ((HB.out.cell (World.block_lt_of_cell? w _ hw687_1)).trans hw687_1)
      go_quiet ((first | (go_at_call 110; apply Calls.quiet_of; ((with_reducible refine (spec_l1In.calls ((rd_T151 l0 x3_1).f1) 20 300 false _ A4.out).mono ?_); exact fun _ _ h_ => ⟨h_.1, h_.2.out⟩))))
      have nHB_ := Aside0.mk (pw_below_drewN (W := wr) ⟨HB.out.os, HB.out.tape, HB.out.output, HB.out.size, HB.out.block⟩ nq)
      have nhx687_0_ : (wr.drewN nq).cell? _ = _ := hx687_0
      have nhx687_1_ : (wr.drewN nq).cell? _ = _ := hx687_1
      clear HB hx687_0 hx687_1 hq0_ hq1_
      have HB := nHB_
      have hx687_0 := nhx687_0_
      have hx687_1 := nhx687_1_
      clear nHB_ nhx687_0_ nhx687_1_
      generalize wr.drewN nq = w28 at HB hx687_0 hx687_1 ⊢
      try go_wp2
      go_ret
      exact ⟨by first | rfl | (simp [errW_none, errW_some] <;> rfl) | (simp [*, errW_none, errW_some] <;> rfl), by repeat (first | (with_reducible first | exact HB.out | apply below_alloc | apply pw_below_drewN | apply below_drew1) | exact HB.out)⟩
    ·
     rw [if_neg c3] at H
     exact absurd H (by simp)
   ·
    rw [if_neg c2] at H
    have c2b0 : decide (x3_1 < (l0.length : Int)) = false := decide_eq_false c2
    clear c2
    replace H := Option.bind_eq_some_iff.mp H
    obtain ⟨t686, A290, H⟩ := H
    try dsimp only at H
    have A29 := Aside0.mk A290
    clear A290
    obtain rfl := Option.some.inj H
    go_wp2_with (first | ((with_reducible refine gate_callee (f := 110) rfl ?_); refine goesL_ (some 58) rfl rfl Try.func110 (by kernel_rfl) rfl #[.int .i64 (l0.length : Int), .int .i64 1, .int .i64 8] rfl (by (try simp only [List.map_toArray, List.map_cons, List.map_nil]); first | done | rfl | (simp only [List.length_drop, List.length_take]; rfl)) ?_; (with_reducible refine (spec_l1In.calls (l0.length : Int) 1 8 t686 _ A29.out).mono ?_); rintro e w' ⟨rfl, ⟨nd, rfl⟩⟩; refine ⟨_, rfl, ?_⟩))
    go_ret
    exact ⟨by first | rfl | (simp [errW_none, errW_some] <;> rfl) | (simp [*, errW_none, errW_some] <;> rfl), by repeat (first | (with_reducible first | exact HB.out | apply below_alloc | apply pw_below_drewN | apply below_drew1) | exact HB.out)⟩
end Go.Proofs.Ytbhlmeghbfmgiaa.F

namespace Go.Proofs.Ytbhlmeghbfmgiaa.F
open Go.RowKit Go.Proofs.YtbhlmeghbfmgiaaW.PrintWords Go.Proofs.YtbhlmeghbfmgiaaW.PrintLast Go.Proofs.YtbhlmeghbfmgiaaW.PrintMore
attribute [local go_sem] max2_int min2_int max_two min_two max_three min_three max_four min_four
set_option linter.unusedVariables false
set_option linter.unusedSimpArgs false
def spec_Min.f (a0 : Int) (a1 : Int) : Option (Int) := if a1 < a0 then (some a1) else (some a0)
set_option maxHeartbeats 8000000 in
set_option maxRecDepth 100000 in
theorem spec_Min.calls (a0 : Int) (a1 : Int) (r : Int) (w : World) (h : spec_Min.f a0 a1 = some r) :
  Calls Try.prog 144 #[.int .i64 a0, .int .i64 a1] w fun e w' => e = .returned (.int .i64 r) ∧ Drawn0 w w' := by
 have H : (if a1 < a0 then (some a1) else (some a0)) = some r := h
 clear h
 by_cases c3 : a1 < a0
 ·
  rw [if_pos c3] at H
  have c3b0 : decide (a1 < a0) = true := decide_eq_true c3
  clear c3
  obtain rfl := Option.some.inj H
  go_enter Try.func144, Try.ntmps144
  go_wp2
  go_ret
  exact ⟨by first | rfl | (simp; done) | (simp [*]; done), by repeat (first | exact Drawn0.refl _ | apply Drawn0.step)⟩
 ·
  rw [if_neg c3] at H
  have c3b0 : decide (a1 < a0) = false := decide_eq_false c3
  clear c3
  obtain rfl := Option.some.inj H
  go_enter Try.func144, Try.ntmps144
  go_wp2
  go_ret
  exact ⟨by first | rfl | (simp; done) | (simp [*]; done), by repeat (first | exact Drawn0.refl _ | apply Drawn0.step)⟩
end Go.Proofs.Ytbhlmeghbfmgiaa.F

namespace Go.Proofs.Ytbhlmeghbfmgiaa.F
open Go.RowKit Go.Proofs.YtbhlmeghbfmgiaaW.PrintWords Go.Proofs.YtbhlmeghbfmgiaaW.PrintLast Go.Proofs.YtbhlmeghbfmgiaaW.PrintMore
attribute [local go_sem] max2_int min2_int max_two min_two max_three min_three max_four min_four
set_option linter.unusedVariables false
set_option linter.unusedSimpArgs false
def spec_AddRatio.j0 : Nat → Bool → Int → Int → Int → Int → Option (Int × Int × Bool)
 | 0, _, _, _, _, _ => none
 | k + 1, x18, x697000, x697001, x698000, x698001 => if x18 = true then (some (0, 0, false)) else ((spec_l4Gcd.f k x697001 x698001).bind fun t701 => (if t701 = 0 then (none) else ((spec_l4Abs.f (wrap64 ((wrap64 (x697000 * (wrap64 (Int.tdiv x698001 t701)))) + (wrap64 (x698000 * (wrap64 (Int.tdiv x697001 t701))))))).bind fun t702 => ((spec_l4Gcd.f k t702 (wrap64 ((wrap64 (Int.tdiv x697001 t701)) * x698001))).bind fun t703 => (if t703 = 0 then (none) else ((spec_IsRatio.f k (wrap64 (Int.tdiv (wrap64 ((wrap64 (x697000 * (wrap64 (Int.tdiv x698001 t701)))) + (wrap64 (x698000 * (wrap64 (Int.tdiv x697001 t701)))))) t703)) (wrap64 (Int.tdiv (wrap64 ((wrap64 (Int.tdiv x697001 t701)) * x698001)) t703))).bind fun t705 => (if t705 = true then (some (wrap64 (Int.tdiv (wrap64 ((wrap64 (x697000 * (wrap64 (Int.tdiv x698001 t701)))) + (wrap64 (x698000 * (wrap64 (Int.tdiv x697001 t701)))))) t703), wrap64 (Int.tdiv (wrap64 ((wrap64 (Int.tdiv x697001 t701)) * x698001)) t703), true)) else (some (0, 0, false)))))))))
def spec_AddRatio.f (k : Nat) (a0_0 : Int) (a0_1 : Int) (a1_0 : Int) (a1_1 : Int) : Option (Int × Int × Bool) := (spec_IsRatio.f k a0_0 a0_1).bind fun t699 => (if t699 = true then ((spec_IsRatio.f k a1_0 a1_1).bind fun t700 => (spec_AddRatio.j0 k (!t700) a0_0 a0_1 a1_0 a1_1)) else (spec_AddRatio.j0 k true a0_0 a0_1 a1_0 a1_1))
def spec_AddRatio.T7 : Bool × List (List Nat × List Nat) := (true, [([], []), ([], []), ([0, 1], [0, 1]), ([], []), ([], []), ([3, 4], [3, 4]), ([2, 5], [2, 5]), ([], []), ([7, 6, 0, 1, 2, 3, 4, 5, 6, 7], [6, 7])])
def spec_AddRatio.B7 : List Nat := [0, 0, 3, 0, 0, 24, 63, 0, 255]
theorem spec_AddRatio.tab7 : rtab .any (opsOf Try.f145 7) = spec_AddRatio.T7 := by kernel_rfl
theorem spec_AddRatio.bits7 : waitsOk spec_AddRatio.T7.2 spec_AddRatio.B7 = true := by kernel_rfl
set_option maxHeartbeats 8000000 in
set_option maxRecDepth 100000 in
theorem spec_AddRatio.calls (k : Nat) (a0_0 : Int) (a0_1 : Int) (a1_0 : Int) (a1_1 : Int) (r1 : Int) (r2 : Int) (r3 : Bool) (w : World) (h : spec_AddRatio.f k a0_0 a0_1 a1_0 a1_1 = some (r1, r2, r3)) :
  Calls Try.prog 145 #[.agg #[.int .i64 a0_0, .int .i64 a0_1], .agg #[.int .i64 a1_0, .int .i64 a1_1]] w fun e w' => e = .returned (.tuple #[.agg #[.int .i64 r1, .int .i64 r2], .bool r3]) ∧ Below w.heap.size w w' := by
 have hu := Try.underlying95
 have F := Aside0.mk (Fr.of (Below.refl w.heap.size w))
 have H := h
 clear h
 unfold spec_AddRatio.f at H
 replace H := Option.bind_eq_some_iff.mp H
 obtain ⟨t1, B_, H⟩ := H
 have A1 := Aside0.mk B_
 clear B_
 have HA := Aside0.mk H
 clear H
 go_enter Try.func145, Try.ntmps145
 go_upto_region 1 with (first
  | ((with_reducible refine gate_dst (N := 2) rfl ?_); refine box_event ?hg (N := 2) ?hd (cs := #[.int .i64 a0_0, .int .i64 a0_1]) (t := 95) ?hr ?_; (case hd => rfl); (case hg => rfl); (case hr => first | (go_simp; done) | (go_simp; rfl)); intro ga hg w1 hbox hb; have F1 := Aside0.mk (F.out.push hg hbox hb); clear F hbox hb hg; have F := F1; clear F1)
  | ((with_reducible refine gate_dst (N := 3) rfl ?_); refine box_event ?hg (N := 3) ?hd (cs := #[.int .i64 a1_0, .int .i64 a1_1]) (t := 95) ?hr ?_; (case hd => rfl); (case hg => rfl); (case hr => first | (go_simp; done) | (go_simp; rfl)); intro gb hg w2 hbox hb; have F1 := Aside0.mk (F.out.push hg hbox hb); clear F hbox hb hg; have F := F1; clear F1)
  | ((with_reducible refine gate_dst (N := 4) rfl ?_); refine box_event ?hg (N := 4) ?hd (cs := #[.int .i64 0, .int .i64 0]) (t := 95) ?hr ?_; (case hd => rfl); (case hg => rfl); (case hr => first | (go_simp; done) | (go_simp; rfl)); intro gr hg w3 hbox hb; have F1 := Aside0.mk (F.out.push hg hbox hb); clear F hbox hb hg; have F := F1; clear F1; obtain ⟨gac0, gac1, gaf0, gaf1⟩ := F.out.c2 (i := 0) rfl; obtain ⟨gbc0, gbc1, gbf0, gbf1⟩ := F.out.c2 (i := 1) rfl))
 (try simp only [Act.put, List.setIfInBounds_toArray, List.set_cons_zero, List.set_cons_succ])
 go_cut [18] (fun vc wc => ∃ (kq : Nat) (b : Bool), vc = .bool b ∧ Aside0 (spec_AddRatio.j0 kq b a0_0 a0_1 a1_0 a1_1 = some (r1, r2, r3)) ∧ Aside0 (Fr w wc [(ga, .cells #[.int .i64 a0_0, .int .i64 a0_1] 95 (0, 0)), (gb, .cells #[.int .i64 a1_0, .int .i64 a1_1] 95 (0, 0)), (gr, .cells #[.int .i64 0, .int .i64 0] 95 (0, 0))]))
 case first =>
  have H := HA.out
  clear HA
  cases t1 with
  | false =>
   simp only [Bool.false_eq_true, if_false] at H
   go_wp2_with (first
    | (go_at_call 146; (with_reducible refine (spec_IsRatio.calls k a0_0 a0_1 false _ A1.out).mono ?_); rintro e w4 ⟨rfl, hb⟩; have F1 := Aside0.mk (F.out.step hb); clear gac0 gac1 gaf0 gaf1 gbc0 gbc1 gbf0 gbf1; clear F hb; have F := F1; clear F1; obtain ⟨gbc0, gbc1, gbf0, gbf1⟩ := F.out.c2 (i := 1) rfl))
   go_meet
   case rel => exact ⟨k, true, (by first | rfl | (simp; done) | (simp [*]; done)), ⟨H⟩, F⟩
  | true =>
   simp only [if_true] at H
   replace H := Option.bind_eq_some_iff.mp H
   obtain ⟨t2, B_, H⟩ := H
   have A2 := Aside0.mk B_
   clear B_
   have HA := Aside0.mk H
   clear H
   cases t2
   all_goals
    go_wp2_with (first
     | (go_at_call 146; (with_reducible refine (spec_IsRatio.calls k a0_0 a0_1 true _ A1.out).mono ?_); rintro e w4 ⟨rfl, hb⟩; have F1 := Aside0.mk (F.out.step hb); clear gac0 gac1 gaf0 gaf1 gbc0 gbc1 gbf0 gbf1; clear F hb; have F := F1; clear F1; obtain ⟨gbc0, gbc1, gbf0, gbf1⟩ := F.out.c2 (i := 1) rfl)
     | (go_at_call 146; (with_reducible refine (spec_IsRatio.calls k a1_0 a1_1 _ _ A2.out).mono ?_); rintro e w5 ⟨rfl, hb⟩; have F1 := Aside0.mk (F.out.step hb); clear gbc0 gbc1 gbf0 gbf1; clear F hb; have F := F1; clear F1))
    go_meet
    case rel => exact ⟨k, _, (by first | rfl | (simp; done) | (simp [*]; done)), HA, F⟩
 case rest =>
  clear HA F A1 gac0 gac1 gaf0 gaf1 gbc0 gbc1 gbf0 gbf1
  obtain ⟨kq, b, rfl, HA, F⟩ := hcut
  cases kq with
  | zero => exact absurd HA.out (by simp [spec_AddRatio.j0])
  | succ kj =>
   have H := HA.out
   clear HA
   simp only [spec_AddRatio.j0] at H
   cases b with
   | true =>
    simp only [if_true, Option.some.injEq, Prod.mk.injEq] at H
    obtain ⟨rfl, rfl, rfl⟩ := H
    obtain ⟨grc0, grc1, grf0, grf1⟩ := F.out.c2 (i := 2) rfl
    go_wp2
    refine bodyPost_ret (results_ct rfl _ _ gr 95 #[.int .i64 0, .int .i64 0] (0, 0) _ rfl ((F.out.put2 (i := 2) rfl (.int .i64 0) (.int .i64 0)).get (i := 2) (by rfl)) hu rfl (by kernel_rfl)) rfl ?_
    exact ⟨rfl, (F.out.put2 (i := 2) rfl (.int .i64 0) (.int .i64 0)).below⟩
   | false =>
    simp only [Bool.false_eq_true, if_false] at H
    replace H := Option.bind_eq_some_iff.mp H
    obtain ⟨g1, B_, H⟩ := H
    have A2 := Aside0.mk B_
    clear B_
    by_cases z1 : g1 = 0
    ·
     rw [if_pos z1] at H
     exact absurd H (by simp)
    rw [if_neg z1] at H
    have z1a : (g1 == 0) = false := beq_eq_false_iff_ne.mpr z1
    have z1b : (g1 != 0) = true := bne_iff_ne.mpr z1
    replace z1 := eq_false z1
    replace H := Option.bind_eq_some_iff.mp H
    obtain ⟨u1, B_, H⟩ := H
    have A3 := Aside0.mk B_
    clear B_
    replace H := Option.bind_eq_some_iff.mp H
    obtain ⟨g2, B_, H⟩ := H
    have A4 := Aside0.mk B_
    clear B_
    by_cases z2 : g2 = 0
    ·
     rw [if_pos z2] at H
     exact absurd H (by simp)
    rw [if_neg z2] at H
    have z2a : (g2 == 0) = false := beq_eq_false_iff_ne.mpr z2
    have z2b : (g2 != 0) = true := bne_iff_ne.mpr z2
    replace z2 := eq_false z2
    replace H := Option.bind_eq_some_iff.mp H
    obtain ⟨t9, B_, H⟩ := H
    have A5 := Aside0.mk B_
    clear B_
    have HA := Aside0.mk H
    clear H
    obtain ⟨gac0, gac1, gaf0, gaf1⟩ := F.out.c2 (i := 0) rfl
    obtain ⟨gbc0, gbc1, gbf0, gbf1⟩ := F.out.c2 (i := 1) rfl
    go_wp2_with (first
     | (go_at_call 155; (with_reducible refine (spec_l4Gcd.calls kj a0_1 a1_1 g1 _ A2.out).mono ?_); rintro e w5 ⟨rfl, hb⟩; have F1 := Aside0.mk (F.out.drawn hb); clear gac0 gac1 gaf0 gaf1 gbc0 gbc1 gbf0 gbf1; clear F hb; have F := F1; clear F1))
    obtain ⟨gac0, gac1, gaf0, gaf1⟩ := F.out.c2 (i := 0) rfl
    obtain ⟨gbc0, gbc1, gbf0, gbf1⟩ := F.out.c2 (i := 1) rfl
    go_quiet (fail)
    have F1 := Aside0.mk (F.out.step (pw_below_drewN (Below.refl _ w5) nq))
    clear gac0 gac1 gaf0 gaf1 gbc0 gbc1 gbf0 gbf1
    clear F
    generalize w5.drewN nq = w6 at F1 ⊢
    have F := F1
    clear F1
    go_wp2
    obtain ⟨gac0, gac1, gaf0, gaf1⟩ := F.out.c2 (i := 0) rfl
    obtain ⟨gbc0, gbc1, gbf0, gbf1⟩ := F.out.c2 (i := 1) rfl
    go_quiet (fail)
    have F1 := Aside0.mk (F.out.step (pw_below_drewN (Below.refl _ w6) nq))
    clear gac0 gac1 gaf0 gaf1 gbc0 gbc1 gbf0 gbf1
    clear F
    generalize w6.drewN nq = w7 at F1 ⊢
    have F := F1
    clear F1
    go_wp2_with (first
     | (go_at_call 156; (with_reducible refine (spec_l4Abs.calls (wrap64 ((wrap64 (a0_0 * (wrap64 (Int.tdiv a1_1 g1)))) + (wrap64 (a1_0 * (wrap64 (Int.tdiv a0_1 g1)))))) u1 _ A3.out).mono ?_); rintro e w8 ⟨rfl, hb⟩; have F1 := Aside0.mk (F.out.drawn hb); clear F hb; have F := F1; clear F1)
     | (go_at_call 155; (with_reducible refine (spec_l4Gcd.calls kj u1 (wrap64 ((wrap64 (Int.tdiv a0_1 g1)) * a1_1)) g2 _ A4.out).mono ?_); rintro e w9 ⟨rfl, hb⟩; have F1 := Aside0.mk (F.out.drawn hb); clear F hb; have F := F1; clear F1))
    have F1 := Aside0.mk F.out.drew
    clear F
    have F := F1
    clear F1
    refine start_ (n := 9) (S := fun w' => w'.cell? ⟨ga, 0, none⟩ = some (.int .i64 a0_0)) (ds := []) #[false, false, false, false, false, false, false, false, false] (by kernel_rfl) rfl rfl (F.out.c2 (i := 0) rfl).1 (fun hHeld => ?_); refine with_tabW spec_AddRatio.tab7 spec_AddRatio.bits7 (fun HT_ HW_ => ?_)
    generalize w9.drew = w10 at F hHeld ⊢
    refine pure_ (i := 0) (N := some 51) (v := ?_) (a' := ?_) #[true, false, false, false, false, false, false, false, false] rfl rfl (any_of HT_.out (by kernel_rfl)) (fun _ _ _ h => h) (Or.inl ⟨by rfl, ?_⟩) ?_ ?_
    rotate_left
    ·
     intro w'
     go_simp
     with_reducible rfl
    rotate_left
    ·
     simp only [Act.put, List.setIfInBounds_toArray, List.set_cons_zero, List.set_cons_succ, i64_w, i32_w]
     rfl
    refine pure_ (i := 1) (N := some 52) (v := ?_) (a' := ?_) #[true, true, false, false, false, false, false, false, false] rfl rfl (any_of HT_.out (by kernel_rfl)) (fun _ _ _ h => h) (Or.inl ⟨by rfl, ?_⟩) ?_ ?_
    rotate_left
    ·
     intro w'
     go_simp
     with_reducible rfl
    rotate_left
    ·
     simp only [Act.put, List.setIfInBounds_toArray, List.set_cons_zero, List.set_cons_succ, i64_w, i32_w]
     rfl
    refine pure_ (i := 2) (N := some 53) (v := ?_) (a' := ?_) #[true, true, true, false, false, false, false, false, false] rfl rfl (any_of HT_.out (by kernel_rfl)) (fun _ _ _ h => h) (Or.inl ⟨by rfl, ?_⟩) ?_ ?_
    rotate_left
    ·
     intro w'
     go_simp
     with_reducible rfl
    rotate_left
    ·
     simp only [Act.put, List.setIfInBounds_toArray, List.set_cons_zero, List.set_cons_succ, i64_w, i32_w]
     rfl
    refine pure_ (i := 3) (N := some 54) (v := ?_) (a' := ?_) #[true, true, true, true, false, false, false, false, false] rfl rfl (any_of HT_.out (by kernel_rfl)) (fun _ _ _ h => h) (Or.inl ⟨by rfl, ?_⟩) ?_ ?_
    rotate_left
    ·
     intro w'
     go_simp
     with_reducible rfl
    rotate_left
    ·
     simp only [Act.put, List.setIfInBounds_toArray, List.set_cons_zero, List.set_cons_succ, i64_w, i32_w]
     rfl
    refine pure_ (i := 4) (N := some 55) (v := ?_) (a' := ?_) #[true, true, true, true, true, false, false, false, false] rfl rfl (any_of HT_.out (by kernel_rfl)) (fun _ _ _ h => h) (Or.inl ⟨by rfl, ?_⟩) ?_ ?_
    rotate_left
    ·
     intro w'
     go_simp
     with_reducible rfl
    rotate_left
    ·
     simp only [Act.put, List.setIfInBounds_toArray, List.set_cons_zero, List.set_cons_succ, i64_w, i32_w]
     rfl
    refine pure_ (i := 5) (N := some 56) (v := ?_) (a' := ?_) #[true, true, true, true, true, true, false, false, false] rfl rfl (any_of HT_.out (by kernel_rfl)) (fun _ _ _ h => h) (Or.inl ⟨by rfl, ?_⟩) ?_ ?_
    rotate_left
    ·
     intro w'
     go_simp
     with_reducible rfl
    rotate_left
    ·
     simp only [Act.put, List.setIfInBounds_toArray, List.set_cons_zero, List.set_cons_succ, i64_w, i32_w]
     rfl
    refine pure_ (i := 6) (N := some 57) (v := ?_) (a' := ?_) #[true, true, true, true, true, true, true, false, false] rfl rfl (any_of HT_.out (by kernel_rfl)) (fun _ _ _ h => h) (Or.inl ⟨by rfl, ?_⟩) ?_ ?_
    rotate_left
    ·
     intro w'
     go_simp
     with_reducible rfl
    rotate_left
    ·
     simp only [Act.put, List.setIfInBounds_toArray, List.set_cons_zero, List.set_cons_succ, i64_w, i32_w]
     rfl
    refine one_ (i := 7) (N := some 10) #[true, true, true, true, true, true, true, true, false] rfl rfl (one_of HT_.out (by kernel_rfl)) (by decide) (fun K hK => ?_)
    refine box_step ?hg (N := 10) ?hd (cs := #[.int .i64 0, .int .i64 0]) (t := 95) ?hr ?_; (case hd => rfl); (case hg => rfl); (case hr => first | (go_simp; done) | (go_simp; rfl))
    intro gn hg w11 hbox hb
    have F1 := Aside0.mk (F.out.push hg hbox hb)
    clear F hbox hb hg
    have F := F1
    clear F1
    clear hHeld
    refine hK.out _ _ (F.out.c2 (i := 0) rfl).1 (fun hHeld => ?_)
    clear hK K
    refine norm_ (a' := ?_) ?_ ?_
    rotate_left
    ·
     show Act.put _ (some 10) _ = _
     simp only [Act.put, List.setIfInBounds_toArray, List.set_cons_zero, List.set_cons_succ, i64_w, i32_w]
     rfl
    refine one_ (i := 8) (N := none) #[true, true, true, true, true, true, true, true, true] rfl rfl (one_of HT_.out (by kernel_rfl)) (by decide) (fun K hK => ?_)
    obtain ⟨gnc0, gnc1, gnf0, gnf1⟩ := F.out.c2 (i := 3) rfl
    refine skip_ (w1 := put2 w11 gn (.int .i64 (wrap64 (Int.tdiv (wrap64 ((wrap64 (a0_0 * (wrap64 (Int.tdiv a1_1 g1)))) + (wrap64 (a1_0 * (wrap64 (Int.tdiv a0_1 g1)))))) g2))) (.int .i64 (wrap64 (Int.tdiv (wrap64 ((wrap64 (Int.tdiv a0_1 g1)) * a1_1)) g2)))) (by rfl) rfl ?_ ?_
    ·
     unfold put2
     go_simp
     try rfl
    clear gnc0 gnc1 gnf0 gnf1
    have F1 := Aside0.mk (F.out.put2 (i := 3) rfl (.int .i64 (wrap64 (Int.tdiv (wrap64 ((wrap64 (a0_0 * (wrap64 (Int.tdiv a1_1 g1)))) + (wrap64 (a1_0 * (wrap64 (Int.tdiv a0_1 g1)))))) g2))) (.int .i64 (wrap64 (Int.tdiv (wrap64 ((wrap64 (Int.tdiv a0_1 g1)) * a1_1)) g2))))
    clear F
    generalize put2 w11 gn (.int .i64 (wrap64 (Int.tdiv (wrap64 ((wrap64 (a0_0 * (wrap64 (Int.tdiv a1_1 g1)))) + (wrap64 (a1_0 * (wrap64 (Int.tdiv a0_1 g1)))))) g2))) (.int .i64 (wrap64 (Int.tdiv (wrap64 ((wrap64 (Int.tdiv a0_1 g1)) * a1_1)) g2))) = w12 at F1 ⊢
    have F := F1
    clear F1
    clear hHeld
    refine hK.out _ _ (F.out.c2 (i := 0) rfl).1 (fun hHeld => ?_)
    clear hK K
    clear hHeld
    refine done_ (done_of HT_.out (by kernel_rfl)) ?_
    have hne := F.out.apart (i := 2) (j := 3) rfl rfl (by decide)
    have H := HA.out
    clear HA
    obtain ⟨gnc0, gnc1, gnf0, gnf1⟩ := F.out.c2 (i := 3) rfl
    cases t9 with
    | false =>
     simp only [Bool.false_eq_true, if_false, Option.some.injEq, Prod.mk.injEq] at H
     obtain ⟨rfl, rfl, rfl⟩ := H
     go_wp2_with (first
      | (go_at_call 146; (with_reducible refine (spec_IsRatio.calls kj (wrap64 (Int.tdiv (wrap64 ((wrap64 (a0_0 * (wrap64 (Int.tdiv a1_1 g1)))) + (wrap64 (a1_0 * (wrap64 (Int.tdiv a0_1 g1)))))) g2)) (wrap64 (Int.tdiv (wrap64 ((wrap64 (Int.tdiv a0_1 g1)) * a1_1)) g2)) false _ A5.out).mono ?_); rintro e w13 ⟨rfl, hb⟩; have F1 := Aside0.mk (F.out.step hb); clear gnc0 gnc1 gnf0 gnf1; clear F hb; have F := F1; clear F1; obtain ⟨grc0, grc1, grf0, grf1⟩ := F.out.c2 (i := 2) rfl; obtain ⟨gnc0, gnc1, gnf0, gnf1⟩ := F.out.c2 (i := 3) rfl))
     refine bodyPost_ret (results_ct rfl _ _ gr 95 #[.int .i64 0, .int .i64 0] (0, 0) _ rfl ((F.out.put2 (i := 2) rfl (.int .i64 0) (.int .i64 0)).get (i := 2) (by rfl)) hu rfl (by kernel_rfl)) rfl ?_
     exact ⟨rfl, (F.out.put2 (i := 2) rfl (.int .i64 0) (.int .i64 0)).below⟩
    | true =>
     simp only [if_true, Option.some.injEq, Prod.mk.injEq] at H
     obtain ⟨rfl, rfl, rfl⟩ := H
     go_wp2_with (first
      | (go_at_call 146; (with_reducible refine (spec_IsRatio.calls kj (wrap64 (Int.tdiv (wrap64 ((wrap64 (a0_0 * (wrap64 (Int.tdiv a1_1 g1)))) + (wrap64 (a1_0 * (wrap64 (Int.tdiv a0_1 g1)))))) g2)) (wrap64 (Int.tdiv (wrap64 ((wrap64 (Int.tdiv a0_1 g1)) * a1_1)) g2)) true _ A5.out).mono ?_); rintro e w13 ⟨rfl, hb⟩; have F1 := Aside0.mk (F.out.step hb); clear gnc0 gnc1 gnf0 gnf1; clear F hb; have F := F1; clear F1; obtain ⟨grc0, grc1, grf0, grf1⟩ := F.out.c2 (i := 2) rfl; obtain ⟨gnc0, gnc1, gnf0, gnf1⟩ := F.out.c2 (i := 3) rfl))
     refine bodyPost_ret (results_ct rfl _ _ gr 95 #[.int .i64 (wrap64 (Int.tdiv (wrap64 ((wrap64 (a0_0 * (wrap64 (Int.tdiv a1_1 g1)))) + (wrap64 (a1_0 * (wrap64 (Int.tdiv a0_1 g1)))))) g2)), .int .i64 (wrap64 (Int.tdiv (wrap64 ((wrap64 (Int.tdiv a0_1 g1)) * a1_1)) g2))] (0, 0) _ rfl ((F.out.put2 (i := 2) rfl (.int .i64 (wrap64 (Int.tdiv (wrap64 ((wrap64 (a0_0 * (wrap64 (Int.tdiv a1_1 g1)))) + (wrap64 (a1_0 * (wrap64 (Int.tdiv a0_1 g1)))))) g2))) (.int .i64 (wrap64 (Int.tdiv (wrap64 ((wrap64 (Int.tdiv a0_1 g1)) * a1_1)) g2)))).get (i := 2) (by rfl)) hu rfl (by kernel_rfl)) rfl ?_
     exact ⟨rfl, (F.out.put2 (i := 2) rfl (.int .i64 (wrap64 (Int.tdiv (wrap64 ((wrap64 (a0_0 * (wrap64 (Int.tdiv a1_1 g1)))) + (wrap64 (a1_0 * (wrap64 (Int.tdiv a0_1 g1)))))) g2))) (.int .i64 (wrap64 (Int.tdiv (wrap64 ((wrap64 (Int.tdiv a0_1 g1)) * a1_1)) g2)))).below⟩
end Go.Proofs.Ytbhlmeghbfmgiaa.F
