/- FnKeys, part 3 of 4: texts of the claim, joined into one file. -/
import Derived.Test.YtiophiipmgpaeaaZFnKeys2
import Derived.Deep.Slices
import Derived.Deep.Fields
import Derived.ChangeSame
import Derived.ChangeArms
import Derived.Lib.SmallJoins
import Derived.OpenShut

namespace Go.Proofs.Ytiophiipmgpaeaa.F
open Go.RowKit Go.Proofs.YtiophiipmgpaeaaW.PrintWords Go.Proofs.YtiophiipmgpaeaaW.PrintLast Go.Proofs.YtiophiipmgpaeaaW.PrintMore
attribute [local go_sem] max2_int min2_int max_two min_two max_three min_three max_four min_four
set_option linter.unusedVariables false
set_option linter.unusedSimpArgs false
def spec_DrawMoveKey.f (k : Nat) (l0 : List Int) : Option (Int × Int × Int) := (spec_l1New.f k l0).bind fun bt1448 => ((spec_l7Any.f bt1448.1 bt1448.2.1 bt1448.2.2).bind fun bt1452 => ((spec_l6Any.f bt1448.1 bt1452.2.1 bt1452.2.2).bind fun bt1455 => (some (bt1452.1, bt1455.1, bt1455.2.1))))
set_option maxHeartbeats 8000000 in
set_option maxRecDepth 100000 in
theorem spec_DrawMoveKey.calls (k : Nat) (A0 : Option Addr) (c0 : Nat) (l0 : List Int) (r1 : Int) (r2 : Int) (r3 : Int) (w : World) (hr0 : Kd.C (Kd.int .u8) w A0 l0.length l0) (hc0 : l0.length ≤ c0) (h : spec_DrawMoveKey.f k l0 = some (r1, r2, r3)) :
  Calls Try.prog 71 #[.slice A0 l0.length c0] w fun e w' => e = .returned (.tuple #[.int .i64 r1, .agg #[.int .i64 r2, .int .i64 r3]]) ∧ Below w.heap.size w w' := by
 have hu88 := Try.underlying88
 have HR0 := Aside0.mk hr0
 have HC0 := Aside0.mk hc0
 clear hr0 hc0
 have HB := Aside0.mk (Below.refl w.heap.size w)
 have H : ((spec_l1New.f k l0).bind fun bt1448 => ((spec_l7Any.f bt1448.1 bt1448.2.1 bt1448.2.2).bind fun bt1452 => ((spec_l6Any.f bt1448.1 bt1452.2.1 bt1452.2.2).bind fun bt1455 => (some (bt1452.1, bt1455.1, bt1455.2.1))))) = some (r1, r2, r3) := h
 clear h
 replace H := Option.bind_eq_some_iff.mp H
 obtain ⟨⟨t1448, t1449, t1450⟩, A20, H⟩ := H
 try dsimp only at H
 have A2 := Aside0.mk A20
 clear A20
 replace H := Option.bind_eq_some_iff.mp H
 obtain ⟨⟨t1452, t1453, t1454⟩, A30, H⟩ := H
 try dsimp only at H
 have A3 := Aside0.mk A30
 clear A30
 replace H := Option.bind_eq_some_iff.mp H
 obtain ⟨⟨t1455, t1456, t1457, t1458⟩, A40, H⟩ := H
 try dsimp only at H
 have A4 := Aside0.mk A40
 clear A40
 simp only [Option.some.injEq, Prod.mk.injEq] at H
 obtain ⟨rfl, rfl, rfl⟩ := H
 go_enter Try.func71, Try.ntmps71
 go_wp2_with (first | ((with_reducible refine gate_dst (N := 3) rfl ?_); refine box_event ?hg (N := 3) ?hd (cs := #[.int .i64 0, .int .i64 0]) (t := 88) ?hr ?_; (case hd => rfl); (case hg => rfl); (case hr => first | (go_simp; done) | (go_simp; rfl)); intro gb1447 hg w5 hbox hb; have n0_ := Aside0.mk (below_step (by repeat (first | (with_reducible first | exact HB.out | apply below_alloc | apply pw_below_drewN | apply below_drew1) | exact HB.out)) hb); have n1_ := Aside0.mk (hbox); have n2_ := Aside0.mk ((by rw [hg]; exact (below_size (by repeat (first | (with_reducible first | exact HB.out | apply below_alloc | apply pw_below_drewN | apply below_drew1) | exact HB.out))) : w.heap.size ≤ gb1447)); have n3_ := Aside0.mk ((by rw [hg]; exact (below_size (by repeat (first | (with_reducible first | exact HB.out | apply below_alloc | apply pw_below_drewN | apply below_drew1) | exact HB.out))) : w.heap.size ≤ gb1447)); clear HB; have HB := n0_; have BK1447 := n1_; have GW1447 := n2_; have GE1447 := n3_; clear n0_ n1_ n2_ n3_; clear hb hbox hg) | ((with_reducible refine gate_callee (f := 119) rfl ?_); refine goesL_ (some 7) rfl rfl Try.func119 (by kernel_rfl) rfl #[.slice A0 l0.length c0] rfl (by (try simp only [List.map_toArray, List.map_cons, List.map_nil]); first | done | rfl | (simp only [List.length_drop, List.length_take]; rfl)) ?_; (with_reducible refine (spec_l1New.calls k _ _ l0 t1448 t1449 t1450 w _ ?side1 ?side2 ?side3 A2.out).mono ?_); (case side1 => repeat (first | (with_reducible first | exact HB.out | apply below_alloc | apply pw_below_drewN | apply below_drew1 | refine below_set ?_ GE1447.out) | exact HB.out)); (case side2 => exact HR0.out); (case side3 => exact HC0.out); rintro e w6 ⟨g1451, rfl, hi, hb, hb2⟩; refine ⟨_, rfl, ?_⟩; have n0_ := Aside0.mk (blk_below (g := gb1447) (o := .cells #[.int .i64 0, .int .i64 0] 88 (0, 0)) (by (with_reducible repeat (first | refine blk_drewN ?_ _ | refine blk_drew ?_ | refine blk_alloc ?_ _)); exact BK1447.out) hb2); have n1_ := Aside0.mk (hb); have n2_ := Aside0.mk (hi); have n3_ := Aside0.mk (IsS176.ne_blk hi (blk_below (g := gb1447) (o := .cells #[.int .i64 0, .int .i64 0] 88 (0, 0)) (by (with_reducible repeat (first | refine blk_drewN ?_ _ | refine blk_drew ?_ | refine blk_alloc ?_ _)); exact BK1447.out) hb2) (by decide)); have n4_ := Aside0.mk (Ne.symm (IsS176.ne_blk hi (blk_below (g := gb1447) (o := .cells #[.int .i64 0, .int .i64 0] 88 (0, 0)) (by (with_reducible repeat (first | refine blk_drewN ?_ _ | refine blk_drew ?_ | refine blk_alloc ?_ _)); exact BK1447.out) hb2) (by decide))); clear BK1447; clear HB; have BK1447 := n0_; have HB := n1_; have HI1451 := n2_; have NB1451_1447 := n3_; have NB1447_1451 := n4_; clear n0_ n1_ n2_ n3_ n4_; (try clear hb); (try clear hb2); (try clear hk); (try clear hi)) | ((with_reducible refine gate_callee (f := 125) rfl ?_); refine goesL_ (some 9) rfl rfl Try.func125 (by kernel_rfl) rfl #[.pointer (some ⟨g1451, 0, none⟩)] rfl (by (try simp only [List.map_toArray, List.map_cons, List.map_nil]); first | done | rfl | (simp only [List.length_drop, List.length_take]; rfl)) ?_; (with_reducible refine (spec_l7Any.calls g1451 t1448 t1449 t1450 t1452 t1453 t1454 w _ ?side1 ?side2 A3.out).mono ?_); (case side1 => repeat (first | (with_reducible first | exact HI1451.out | apply IsS176.alloc | apply IsS176.drewN | apply IsS176.drew | apply IsS176.set_1 | apply IsS176.set_2 | refine IsS176.far ?_ NB1451_1447.out _) | exact HI1451.out)); (case side2 => repeat (first | (with_reducible first | exact HB.out | apply below_alloc | apply pw_below_drewN | apply below_drew1 | refine below_set ?_ (IsS176.ge HI1451.out) | refine below_set ?_ GE1447.out) | exact HB.out)); rintro e w7 ⟨rfl, hi, hb, hk⟩; refine ⟨_, rfl, ?_⟩; have n0_ := Aside0.mk (KeepBut.blk hk (g' := gb1447) (o := .cells #[.int .i64 0, .int .i64 0] 88 (0, 0)) (by (with_reducible repeat (first | refine blk_drewN ?_ _ | refine blk_drew ?_ | refine blk_alloc ?_ _)); exact BK1447.out) NB1447_1451.out (by simp)); have n1_ := Aside0.mk (hb); have n2_ := Aside0.mk (hi); clear BK1447; clear HB; clear HI1451; have BK1447 := n0_; have HB := n1_; have HI1451 := n2_; clear n0_ n1_ n2_; (try clear hb); (try clear hb2); (try clear hk); (try clear hi)) | ((with_reducible refine gate_callee (f := 126) rfl ?_); refine goesL_ (some 12) rfl rfl Try.func126 (by kernel_rfl) rfl #[.pointer (some ⟨g1451, 0, none⟩)] rfl (by (try simp only [List.map_toArray, List.map_cons, List.map_nil]); first | done | rfl | (simp only [List.length_drop, List.length_take]; rfl)) ?_; (with_reducible refine (spec_l6Any.calls g1451 t1448 t1453 t1454 t1455 t1456 t1457 t1458 w _ ?side1 ?side2 A4.out).mono ?_); (case side1 => repeat (first | (with_reducible first | exact HI1451.out | apply IsS176.alloc | apply IsS176.drewN | apply IsS176.drew | apply IsS176.set_1 | apply IsS176.set_2 | refine IsS176.far ?_ NB1451_1447.out _) | exact HI1451.out)); (case side2 => repeat (first | (with_reducible first | exact HB.out | apply below_alloc | apply pw_below_drewN | apply below_drew1 | refine below_set ?_ (IsS176.ge HI1451.out) | refine below_set ?_ GE1447.out) | exact HB.out)); rintro e w8 ⟨rfl, hi, hb, hk⟩; refine ⟨_, rfl, ?_⟩; have n0_ := Aside0.mk (KeepBut.blk hk (g' := gb1447) (o := .cells #[.int .i64 0, .int .i64 0] 88 (0, 0)) (by (with_reducible repeat (first | refine blk_drewN ?_ _ | refine blk_drew ?_ | refine blk_alloc ?_ _)); exact BK1447.out) NB1447_1451.out (by simp)); have n1_ := Aside0.mk (hb); have n2_ := Aside0.mk (hi); clear BK1447; clear HB; clear HI1451; have BK1447 := n0_; have HB := n1_; have HI1451 := n2_; clear n0_ n1_ n2_; (try clear hb); (try clear hb2); (try clear hk); (try clear hi); have hnb9 := NB1447_1451.out; have hnc9 := NB1451_1447.out; have hcz10_0 : w8.cell? ⟨gb1447, 0, none⟩ = some (.int .i64 0) := (blk_cell BK1447.out 0).trans rfl; have hcz10_1 : w8.cell? ⟨gb1447, 1, none⟩ = some (.int .i64 0) := (blk_cell BK1447.out 1).trans rfl; have hfz10_0 := blk_frozen BK1447.out 0; have hfz10_1 := blk_frozen BK1447.out 1))
 refine bodyPost_ret (results_tc rfl _ _ gb1447 88 #[.int .i64 t1455, .int .i64 t1456] (0, 0) _ rfl (by (with_reducible repeat (first | refine blk_drewN ?_ _ | refine blk_drew ?_ | refine blk_alloc ?_ _)); refine blk_put (cs := #[.int .i64 t1455, .int .i64 0]) ?_ 1 _ rfl; (with_reducible repeat (first | refine blk_drewN ?_ _ | refine blk_drew ?_ | refine blk_alloc ?_ _)); refine blk_put (cs := #[.int .i64 0, .int .i64 0]) ?_ 0 _ rfl; (with_reducible repeat (first | refine blk_drewN ?_ _ | refine blk_drew ?_ | refine blk_alloc ?_ _)); exact BK1447.out) Try.underlying88 rfl (by kernel_rfl)) rfl ?_
 exact ⟨by first | rfl | (simp [errW_none, errW_some] <;> rfl) | (simp [*, errW_none, errW_some] <;> rfl), by repeat (first | (with_reducible first | exact HB.out | apply below_alloc | apply pw_below_drewN | apply below_drew1 | refine below_set ?_ (IsS176.ge HI1451.out) | refine below_set ?_ GE1447.out) | exact HB.out)⟩
end Go.Proofs.Ytiophiipmgpaeaa.F

namespace Go.Proofs.Ytiophiipmgpaeaa.F
open Go.RowKit Go.Proofs.YtiophiipmgpaeaaW.PrintWords Go.Proofs.YtiophiipmgpaeaaW.PrintLast Go.Proofs.YtiophiipmgpaeaaW.PrintMore
attribute [local go_sem] max2_int min2_int max_two min_two max_three min_three max_four min_four
set_option linter.unusedVariables false
set_option linter.unusedSimpArgs false
def impl_isSmall.f (a0_0 : Int) (a0_1 : Int) : Option (Bool) := (impl_InRange.f a0_0 (-1000) 1000).bind fun t1460 => (if t1460 = true then ((impl_InRange.f a0_1 (-1000) 1000).bind fun t1461 => (some t1461)) else (some false))
set_option maxHeartbeats 8000000 in
set_option maxRecDepth 100000 in
theorem impl_isSmall.calls (a0_0 : Int) (a0_1 : Int) (r : Bool) (w : World) (h : impl_isSmall.f a0_0 a0_1 = some r) :
  Calls Try.prog 127 #[.agg #[.int .i64 a0_0, .int .i64 a0_1]] w fun e w' => e = .returned (.bool r) ∧ Below w.heap.size w w' := by
 have hu88 := Try.underlying88
 have HB := Aside0.mk (Below.refl w.heap.size w)
 have H : ((impl_InRange.f a0_0 (-1000) 1000).bind fun t1460 => (if t1460 = true then ((impl_InRange.f a0_1 (-1000) 1000).bind fun t1461 => (some t1461)) else (some false))) = some r := h
 clear h
 replace H := Option.bind_eq_some_iff.mp H
 obtain ⟨t1460, A20, H⟩ := H
 try dsimp only at H
 have A2 := Aside0.mk A20
 clear A20
 by_cases c3 : t1460 = true
 ·
  subst c3
  rw [if_pos rfl] at H
  replace H := Option.bind_eq_some_iff.mp H
  obtain ⟨t1461, A40, H⟩ := H
  try dsimp only at H
  have A4 := Aside0.mk A40
  clear A40
  obtain rfl := Option.some.inj H
  go_enter Try.func127, Try.ntmps127
  go_wp2_with (first | ((with_reducible refine gate_dst (N := 1) rfl ?_); refine box_event ?hg (N := 1) ?hd (cs := #[.int .i64 a0_0, .int .i64 a0_1]) (t := 88) ?hr ?_; (case hd => rfl); (case hg => rfl); (case hr => first | (go_simp; done) | (go_simp; rfl)); intro gb1459 hg w5 hbox hb; have n0_ := Aside0.mk (below_step (by repeat (first | (with_reducible first | exact HB.out | apply below_alloc | apply pw_below_drewN | apply below_drew1) | exact HB.out)) hb); have n1_ := Aside0.mk (hbox); have n2_ := Aside0.mk ((by rw [hg]; exact (below_size (by repeat (first | (with_reducible first | exact HB.out | apply below_alloc | apply pw_below_drewN | apply below_drew1) | exact HB.out))) : w.heap.size ≤ gb1459)); have n3_ := Aside0.mk ((by rw [hg]; exact (below_size (by repeat (first | (with_reducible first | exact HB.out | apply below_alloc | apply pw_below_drewN | apply below_drew1) | exact HB.out))) : w.heap.size ≤ gb1459)); clear HB; have HB := n0_; have BK1459 := n1_; have GW1459 := n2_; have GE1459 := n3_; clear n0_ n1_ n2_ n3_; clear hb hbox hg; have hcz6_0 : w5.cell? ⟨gb1459, 0, none⟩ = some (.int .i64 a0_0) := (blk_cell BK1459.out 0).trans rfl; have hcz6_1 : w5.cell? ⟨gb1459, 1, none⟩ = some (.int .i64 a0_1) := (blk_cell BK1459.out 1).trans rfl; have hfz6_0 := blk_frozen BK1459.out 0; have hfz6_1 := blk_frozen BK1459.out 1) | ((with_reducible refine gate_callee (f := 82) rfl ?_); refine goesL_ (some 5) rfl rfl Try.func82 (by kernel_rfl) rfl #[.int .i64 a0_0, .int .i64 (-1000), .int .i64 1000] rfl (by (try simp only [List.map_toArray, List.map_cons, List.map_nil]); first | done | rfl | (simp only [List.length_drop, List.length_take]; rfl)) ?_; (with_reducible refine (impl_InRange.calls a0_0 (-1000) 1000 true _ A2.out).mono ?_); rintro e w' ⟨rfl, ⟨nd, rfl⟩⟩; refine ⟨_, rfl, ?_⟩) | (go_at_call 82; (with_reducible refine (impl_InRange.calls a0_1 (-1000) 1000 t1461 _ A4.out).mono ?_); rintro e w' ⟨rfl, ⟨nd, rfl⟩⟩))
  go_ret
  exact ⟨by first | rfl | (simp [errW_none, errW_some] <;> rfl) | (simp [*, errW_none, errW_some] <;> rfl), by repeat (first | (with_reducible first | exact HB.out | apply below_alloc | apply pw_below_drewN | apply below_drew1 | refine below_set ?_ GE1459.out) | exact HB.out)⟩
 ·
  replace c3 := Bool.eq_false_iff.mpr c3
  subst c3
  rw [if_neg (show ¬ (false = true) by decide)] at H
  obtain rfl := Option.some.inj H
  go_enter Try.func127, Try.ntmps127
  go_wp2_with (first | ((with_reducible refine gate_dst (N := 1) rfl ?_); refine box_event ?hg (N := 1) ?hd (cs := #[.int .i64 a0_0, .int .i64 a0_1]) (t := 88) ?hr ?_; (case hd => rfl); (case hg => rfl); (case hr => first | (go_simp; done) | (go_simp; rfl)); intro gb1459 hg w7 hbox hb; have n0_ := Aside0.mk (below_step (by repeat (first | (with_reducible first | exact HB.out | apply below_alloc | apply pw_below_drewN | apply below_drew1) | exact HB.out)) hb); have n1_ := Aside0.mk (hbox); have n2_ := Aside0.mk ((by rw [hg]; exact (below_size (by repeat (first | (with_reducible first | exact HB.out | apply below_alloc | apply pw_below_drewN | apply below_drew1) | exact HB.out))) : w.heap.size ≤ gb1459)); have n3_ := Aside0.mk ((by rw [hg]; exact (below_size (by repeat (first | (with_reducible first | exact HB.out | apply below_alloc | apply pw_below_drewN | apply below_drew1) | exact HB.out))) : w.heap.size ≤ gb1459)); clear HB; have HB := n0_; have BK1459 := n1_; have GW1459 := n2_; have GE1459 := n3_; clear n0_ n1_ n2_ n3_; clear hb hbox hg; have hcz8_0 : w7.cell? ⟨gb1459, 0, none⟩ = some (.int .i64 a0_0) := (blk_cell BK1459.out 0).trans rfl; have hcz8_1 : w7.cell? ⟨gb1459, 1, none⟩ = some (.int .i64 a0_1) := (blk_cell BK1459.out 1).trans rfl; have hfz8_0 := blk_frozen BK1459.out 0; have hfz8_1 := blk_frozen BK1459.out 1) | ((with_reducible refine gate_callee (f := 82) rfl ?_); refine goesL_ (some 5) rfl rfl Try.func82 (by kernel_rfl) rfl #[.int .i64 a0_0, .int .i64 (-1000), .int .i64 1000] rfl (by (try simp only [List.map_toArray, List.map_cons, List.map_nil]); first | done | rfl | (simp only [List.length_drop, List.length_take]; rfl)) ?_; (with_reducible refine (impl_InRange.calls a0_0 (-1000) 1000 false _ A2.out).mono ?_); rintro e w' ⟨rfl, ⟨nd, rfl⟩⟩; refine ⟨_, rfl, ?_⟩))
  go_ret
  exact ⟨by first | rfl | (simp [errW_none, errW_some] <;> rfl) | (simp [*, errW_none, errW_some] <;> rfl), by repeat (first | (with_reducible first | exact HB.out | apply below_alloc | apply pw_below_drewN | apply below_drew1 | refine below_set ?_ GE1459.out) | exact HB.out)⟩
end Go.Proofs.Ytiophiipmgpaeaa.F

namespace Go.Proofs.Ytiophiipmgpaeaa.F
open Go.RowKit Go.Proofs.YtiophiipmgpaeaaW.PrintWords Go.Proofs.YtiophiipmgpaeaaW.PrintLast Go.Proofs.YtiophiipmgpaeaaW.PrintMore
attribute [local go_sem] max2_int min2_int max_two min_two max_three min_three max_four min_four
set_option linter.unusedVariables false
set_option linter.unusedSimpArgs false
def impl_MoveKey.j0 : Nat → Int → Bool → Int → Int → Option (Int × Bool)
 | 0, _, _, _, _ => none
 | k + 1, x0, x14, x1463000, x1463001 => if x14 = true then (some (0, false)) else ((impl_IsKey.f (wrap64 ((wrap64 (x0 + (wrap64 (7 * x1463001)))) - (wrap64 (12 * x1463000))))).bind fun t1465 => (if t1465 = true then (some (wrap64 ((wrap64 (x0 + (wrap64 (7 * x1463001)))) - (wrap64 (12 * x1463000))), true)) else (some (0, false))))
def impl_MoveKey.f (k : Nat) (a0 : Int) (a1_0 : Int) (a1_1 : Int) : Option (Int × Bool) := (impl_IsKey.f a0).bind fun t1463 => (if t1463 = true then ((impl_isSmall.f a1_0 a1_1).bind fun t1464 => (impl_MoveKey.j0 k a0 (!t1464) a1_0 a1_1)) else (impl_MoveKey.j0 k a0 true a1_0 a1_1))
set_option maxHeartbeats 8000000 in
set_option maxRecDepth 100000 in
theorem impl_MoveKey.calls (k : Nat) (a0 : Int) (a1_0 : Int) (a1_1 : Int) (r1 : Int) (r2 : Bool) (w : World) (h : impl_MoveKey.f k a0 a1_0 a1_1 = some (r1, r2)) :
  Calls Try.prog 72 #[.int .i64 a0, .agg #[.int .i64 a1_0, .int .i64 a1_1]] w fun e w' => e = .returned (.tuple #[.int .i64 r1, .bool r2]) ∧ Below w.heap.size w w' := by
 have hu88 := Try.underlying88
 have HB := Aside0.mk (Below.refl w.heap.size w)
 have H : ((impl_IsKey.f a0).bind fun t1463 => (if t1463 = true then ((impl_isSmall.f a1_0 a1_1).bind fun t1464 => (impl_MoveKey.j0 k a0 (!t1464) a1_0 a1_1)) else (impl_MoveKey.j0 k a0 true a1_0 a1_1))) = some (r1, r2) := h
 clear h
 have HC3 := Aside0.mk H
 clear H
 go_enter Try.func72, Try.ntmps72
 go_upto_region 1 with (first | ((with_reducible refine gate_dst (N := 3) rfl ?_); refine box_event ?hg (N := 3) ?hd (cs := #[.int .i64 a1_0, .int .i64 a1_1]) (t := 88) ?hr ?_; (case hd => rfl); (case hg => rfl); (case hr => first | (go_simp; done) | (go_simp; rfl)); intro gb1462 hg w4 hbox hb; have n0_ := Aside0.mk (below_step (by repeat (first | (with_reducible first | exact HB.out | apply below_alloc | apply pw_below_drewN | apply below_drew1) | exact HB.out)) hb); have n1_ := Aside0.mk (hbox); have n2_ := Aside0.mk ((by rw [hg]; exact (below_size (by repeat (first | (with_reducible first | exact HB.out | apply below_alloc | apply pw_below_drewN | apply below_drew1) | exact HB.out))) : w.heap.size ≤ gb1462)); have n3_ := Aside0.mk ((by rw [hg]; exact (below_size (by repeat (first | (with_reducible first | exact HB.out | apply below_alloc | apply pw_below_drewN | apply below_drew1) | exact HB.out))) : w.heap.size ≤ gb1462)); clear HB; have HB := n0_; have BK1462 := n1_; have GW1462 := n2_; have GE1462 := n3_; clear n0_ n1_ n2_ n3_; clear hb hbox hg))
 (try simp only [Act.put, List.setIfInBounds_toArray, List.set_cons_zero, List.set_cons_succ])
 go_cut [14] (fun v14 wc => ∃ (kq : Nat) (x14_2 : Bool), v14 = .bool x14_2 ∧ Aside0 (impl_MoveKey.j0 kq a0 x14_2 a1_0 a1_1 = some (r1, r2)) ∧ Aside0 (kq ≤ k) ∧ Aside0 (wc.heap[gb1462]? = some (.cells #[.int .i64 a1_0, .int .i64 a1_1] 88 (0, 0))) ∧ Aside0 (Below w.heap.size w wc))
 case first =>
  have H := HC3.out
  clear HC3
  replace H := Option.bind_eq_some_iff.mp H
  obtain ⟨t1463, A50, H⟩ := H
  try dsimp only at H
  have A5 := Aside0.mk A50
  clear A50
  by_cases c6 : t1463 = true
  ·
   subst c6
   rw [if_pos rfl] at H
   replace H := Option.bind_eq_some_iff.mp H
   obtain ⟨t1464, A70, H⟩ := H
   try dsimp only at H
   have A7 := Aside0.mk A70
   clear A70
   have H' := Aside0.mk H
   clear H
   go_wp2_with (first | ((with_reducible refine gate_callee (f := 79) rfl ?_); refine goesL_ (some 8) rfl rfl Try.func79 (by kernel_rfl) rfl #[.int .i64 a0] rfl (by (try simp only [List.map_toArray, List.map_cons, List.map_nil]); first | done | rfl | (simp only [List.length_drop, List.length_take]; rfl)) ?_; (with_reducible refine (impl_IsKey.calls a0 true _ A5.out).mono ?_); rintro e w' ⟨rfl, ⟨nd, rfl⟩⟩; refine ⟨_, rfl, ?_⟩; have hcz8_0 : w4.cell? ⟨gb1462, 0, none⟩ = some (.int .i64 a1_0) := (blk_cell BK1462.out 0).trans rfl; have hcz8_1 : w4.cell? ⟨gb1462, 1, none⟩ = some (.int .i64 a1_1) := (blk_cell BK1462.out 1).trans rfl; have hfz8_0 := blk_frozen BK1462.out 0; have hfz8_1 := blk_frozen BK1462.out 1) | (go_at_call 127; (with_reducible refine (impl_isSmall.calls a1_0 a1_1 t1464 _ A7.out).mono ?_); rintro e w9 ⟨rfl, hb⟩; have n0_ := Aside0.mk (blk_below (g := gb1462) (o := .cells #[.int .i64 a1_0, .int .i64 a1_1] 88 (0, 0)) (by (with_reducible repeat (first | refine blk_drewN ?_ _ | refine blk_drew ?_ | refine blk_alloc ?_ _)); exact BK1462.out) hb); have n1_ := Aside0.mk (below_step (by repeat (first | (with_reducible first | exact HB.out | apply below_alloc | apply pw_below_drewN | apply below_drew1 | refine below_set ?_ GE1462.out) | exact HB.out)) hb); clear BK1462; clear HB; have BK1462 := n0_; have HB := n1_; clear n0_ n1_; (try clear hb); (try clear hb2); (try clear hk); (try clear hi)))
   go_meet
   case rel => exact ⟨_, (!t1464), (by first | rfl | (simp; done) | (simp [*]; done)), H', ⟨by first | omega | exact Nat.le_refl _⟩, ⟨by (with_reducible repeat (first | refine blk_drewN ?_ _ | refine blk_drew ?_ | refine blk_alloc ?_ _)); exact BK1462.out⟩, ⟨by repeat (first | (with_reducible first | exact HB.out | apply below_alloc | apply pw_below_drewN | apply below_drew1 | refine below_set ?_ GE1462.out) | exact HB.out)⟩⟩
  ·
   replace c6 := Bool.eq_false_iff.mpr c6
   subst c6
   rw [if_neg (show ¬ (false = true) by decide)] at H
   have H' := Aside0.mk H
   clear H
   go_wp2_with (first | ((with_reducible refine gate_callee (f := 79) rfl ?_); refine goesL_ (some 8) rfl rfl Try.func79 (by kernel_rfl) rfl #[.int .i64 a0] rfl (by (try simp only [List.map_toArray, List.map_cons, List.map_nil]); first | done | rfl | (simp only [List.length_drop, List.length_take]; rfl)) ?_; (with_reducible refine (impl_IsKey.calls a0 false _ A5.out).mono ?_); rintro e w' ⟨rfl, ⟨nd, rfl⟩⟩; refine ⟨_, rfl, ?_⟩))
   go_meet
   case rel => exact ⟨_, (true), (by first | rfl | (simp; done) | (simp [*]; done)), H', ⟨by first | omega | exact Nat.le_refl _⟩, ⟨by (with_reducible repeat (first | refine blk_drewN ?_ _ | refine blk_drew ?_ | refine blk_alloc ?_ _)); exact BK1462.out⟩, ⟨by repeat (first | (with_reducible first | exact HB.out | apply below_alloc | apply pw_below_drewN | apply below_drew1 | refine below_set ?_ GE1462.out) | exact HB.out)⟩⟩
 case rest =>
  clear HC3
  try clear p2
  try clear c6
  try clear c7
  try clear hcz8_0
  try clear hcz8_1
  try clear hfz8_0
  try clear hfz8_1
  obtain ⟨kq, x14_2, rfl, HA, HJ2, BK1462, HB⟩ := hcut
  cases kq with
  | zero => exact absurd HA.out (by simp [impl_MoveKey.j0])
  | succ kj2 =>
   have H := HA.out
   clear HA
   simp only [impl_MoveKey.j0] at H
   by_cases c10 : x14_2 = true
   ·
    subst c10
    rw [if_pos rfl] at H
    simp only [Option.some.injEq, Prod.mk.injEq] at H
    obtain ⟨rfl, rfl⟩ := H
    go_wp2
    go_ret2
    exact ⟨by first | rfl | (simp [errW_none, errW_some] <;> rfl) | (simp [*, errW_none, errW_some] <;> rfl), by repeat (first | (with_reducible first | exact HB.out | apply below_alloc | apply pw_below_drewN | apply below_drew1 | refine below_set ?_ GE1462.out) | exact HB.out)⟩
   ·
    replace c10 := Bool.eq_false_iff.mpr c10
    subst c10
    rw [if_neg (show ¬ (false = true) by decide)] at H
    replace H := Option.bind_eq_some_iff.mp H
    obtain ⟨t1465, A110, H⟩ := H
    try dsimp only at H
    have A11 := Aside0.mk A110
    clear A110
    by_cases c12 : t1465 = true
    ·
     subst c12
     rw [if_pos rfl] at H
     simp only [Option.some.injEq, Prod.mk.injEq] at H
     obtain ⟨rfl, rfl⟩ := H
     have hcz13_0 : wc.cell? ⟨gb1462, 0, none⟩ = some (.int .i64 a1_0) := (blk_cell BK1462.out 0).trans rfl
     have hcz13_1 : wc.cell? ⟨gb1462, 1, none⟩ = some (.int .i64 a1_1) := (blk_cell BK1462.out 1).trans rfl
     have hfz13_0 := blk_frozen BK1462.out 0
     have hfz13_1 := blk_frozen BK1462.out 1
     go_wp2_with (first | ((with_reducible refine gate_callee (f := 79) rfl ?_); refine goesL_ (some 25) rfl rfl Try.func79 (by kernel_rfl) rfl #[.int .i64 (wrap64 ((wrap64 (a0 + (wrap64 (7 * a1_1)))) - (wrap64 (12 * a1_0))))] rfl (by (try simp only [List.map_toArray, List.map_cons, List.map_nil]); first | done | rfl | (simp only [List.length_drop, List.length_take]; rfl)) ?_; (with_reducible refine (impl_IsKey.calls (wrap64 ((wrap64 (a0 + (wrap64 (7 * a1_1)))) - (wrap64 (12 * a1_0)))) true _ A11.out).mono ?_); rintro e w' ⟨rfl, ⟨nd, rfl⟩⟩; refine ⟨_, rfl, ?_⟩))
     go_ret2
     exact ⟨by first | rfl | (simp [errW_none, errW_some] <;> rfl) | (simp [*, errW_none, errW_some] <;> rfl), by repeat (first | (with_reducible first | exact HB.out | apply below_alloc | apply pw_below_drewN | apply below_drew1 | refine below_set ?_ GE1462.out) | exact HB.out)⟩
    ·
     replace c12 := Bool.eq_false_iff.mpr c12
     subst c12
     rw [if_neg (show ¬ (false = true) by decide)] at H
     simp only [Option.some.injEq, Prod.mk.injEq] at H
     obtain ⟨rfl, rfl⟩ := H
     have hcz14_0 : wc.cell? ⟨gb1462, 0, none⟩ = some (.int .i64 a1_0) := (blk_cell BK1462.out 0).trans rfl
     have hcz14_1 : wc.cell? ⟨gb1462, 1, none⟩ = some (.int .i64 a1_1) := (blk_cell BK1462.out 1).trans rfl
     have hfz14_0 := blk_frozen BK1462.out 0
     have hfz14_1 := blk_frozen BK1462.out 1
     go_wp2_with (first | ((with_reducible refine gate_callee (f := 79) rfl ?_); refine goesL_ (some 25) rfl rfl Try.func79 (by kernel_rfl) rfl #[.int .i64 (wrap64 ((wrap64 (a0 + (wrap64 (7 * a1_1)))) - (wrap64 (12 * a1_0))))] rfl (by (try simp only [List.map_toArray, List.map_cons, List.map_nil]); first | done | rfl | (simp only [List.length_drop, List.length_take]; rfl)) ?_; (with_reducible refine (impl_IsKey.calls (wrap64 ((wrap64 (a0 + (wrap64 (7 * a1_1)))) - (wrap64 (12 * a1_0)))) false _ A11.out).mono ?_); rintro e w' ⟨rfl, ⟨nd, rfl⟩⟩; refine ⟨_, rfl, ?_⟩))
     go_ret2
     exact ⟨by first | rfl | (simp [errW_none, errW_some] <;> rfl) | (simp [*, errW_none, errW_some] <;> rfl), by repeat (first | (with_reducible first | exact HB.out | apply below_alloc | apply pw_below_drewN | apply below_drew1 | refine below_set ?_ GE1462.out) | exact HB.out)⟩
end Go.Proofs.Ytiophiipmgpaeaa.F

namespace Go.Proofs.Ytiophiipmgpaeaa.F
open Go.RowKit Go.Proofs.YtiophiipmgpaeaaW.PrintWords Go.Proofs.YtiophiipmgpaeaaW.PrintLast Go.Proofs.YtiophiipmgpaeaaW.PrintMore
attribute [local go_sem] max2_int min2_int max_two min_two max_three min_three max_four min_four
set_option linter.unusedVariables false
set_option linter.unusedSimpArgs false
def impl_MoveNote.j0 : Nat → Bool → Int → Int → Int → Int → Int → Option (Int × Int × Int × Bool)
 | 0, _, _, _, _, _, _ => none
 | k + 1, x15, x1474000, x1474001, x1474002, x1475000, x1475001 => if x15 = true then (some (0, 0, 0, false)) else (if (wrap64 ((wrap64 ((wrap64 (7 * x1474002)) + x1474000)) + x1475000)) < 0 then (some (0, 0, 0, false)) else ((impl_Note_pitch.f x1474000 x1474001 x1474002).bind fun t1479 => ((impl_Note_pitch.f (Int.tmod (wrap64 ((wrap64 ((wrap64 (7 * x1474002)) + x1474000)) + x1475000)) 7) 0 (wrap64 (Int.tdiv (wrap64 ((wrap64 ((wrap64 (7 * x1474002)) + x1474000)) + x1475000)) 7))).bind fun t1480 => ((impl_IsNote.f (Int.tmod (wrap64 ((wrap64 ((wrap64 (7 * x1474002)) + x1474000)) + x1475000)) 7) (wrap64 ((wrap64 (t1479 + x1475001)) - t1480)) (wrap64 (Int.tdiv (wrap64 ((wrap64 ((wrap64 (7 * x1474002)) + x1474000)) + x1475000)) 7))).bind fun t1481 => (if t1481 = true then (some (Int.tmod (wrap64 ((wrap64 ((wrap64 (7 * x1474002)) + x1474000)) + x1475000)) 7, wrap64 ((wrap64 (t1479 + x1475001)) - t1480), wrap64 (Int.tdiv (wrap64 ((wrap64 ((wrap64 (7 * x1474002)) + x1474000)) + x1475000)) 7), true)) else (some (0, 0, 0, false)))))))
def impl_MoveNote.f (k : Nat) (a0_0 : Int) (a0_1 : Int) (a0_2 : Int) (a1_0 : Int) (a1_1 : Int) : Option (Int × Int × Int × Bool) := (impl_IsNote.f a0_0 a0_1 a0_2).bind fun t1476 => (if t1476 = true then ((impl_isSmall.f a1_0 a1_1).bind fun t1477 => (impl_MoveNote.j0 k (!t1477) a0_0 a0_1 a0_2 a1_0 a1_1)) else (impl_MoveNote.j0 k true a0_0 a0_1 a0_2 a1_0 a1_1))
def impl_MoveNote.T7 : Bool × List (List Nat × List Nat) := (true, [([], []), ([0], [0]), ([], []), ([2], [2]), ([1, 3], [1, 3]), ([], []), ([5, 1], [5]), ([4, 6], [4, 6]), ([0, 1, 2, 3, 4, 5, 6, 7], []), ([8, 7, 6, 0, 1, 2, 3, 4, 5, 6, 7], [7, 8])])
def impl_MoveNote.B7 : List Nat := [0, 1, 0, 4, 15, 0, 35, 127, 255, 511]
theorem impl_MoveNote.tab7 : rtab .any (opsOf Try.f74 7) = impl_MoveNote.T7 := by kernel_rfl
theorem impl_MoveNote.bits7 : waitsOk impl_MoveNote.T7.2 impl_MoveNote.B7 = true := by kernel_rfl
set_option maxHeartbeats 8000000 in
set_option maxRecDepth 100000 in
theorem impl_MoveNote.calls (k : Nat) (a0_0 : Int) (a0_1 : Int) (a0_2 : Int) (a1_0 : Int) (a1_1 : Int) (r1 : Int) (r2 : Int) (r3 : Int) (r4 : Bool) (w : World) (h : impl_MoveNote.f k a0_0 a0_1 a0_2 a1_0 a1_1 = some (r1, r2, r3, r4)) :
  Calls Try.prog 74 #[.agg #[.int .i64 a0_0, .int .i64 a0_1, .int .i64 a0_2], .agg #[.int .i64 a1_0, .int .i64 a1_1]] w fun e w' => e = .returned (.tuple #[.agg #[.int .i64 r1, .int .i64 r2, .int .i64 r3], .bool r4]) ∧ Below w.heap.size w w' := by
 have hu64 := Try.underlying64
 have hu88 := Try.underlying88
 have HB := Aside0.mk (Below.refl w.heap.size w)
 have H : ((impl_IsNote.f a0_0 a0_1 a0_2).bind fun t1476 => (if t1476 = true then ((impl_isSmall.f a1_0 a1_1).bind fun t1477 => (impl_MoveNote.j0 k (!t1477) a0_0 a0_1 a0_2 a1_0 a1_1)) else (impl_MoveNote.j0 k true a0_0 a0_1 a0_2 a1_0 a1_1))) = some (r1, r2, r3, r4) := h
 clear h
 have HC3 := Aside0.mk H
 clear H
 go_enter Try.func74, Try.ntmps74
 go_upto_region 1 with (first | ((with_reducible refine gate_dst (N := 2) rfl ?_); refine box_event ?hg (N := 2) ?hd (cs := #[.int .i64 a0_0, .int .i64 a0_1, .int .i64 a0_2]) (t := 64) ?hr ?_; (case hd => rfl); (case hg => rfl); (case hr => first | (go_simp; done) | (go_simp; rfl)); intro gb1473 hg w4 hbox hb; have n0_ := Aside0.mk (below_step (by repeat (first | (with_reducible first | exact HB.out | apply below_alloc | apply pw_below_drewN | apply below_drew1) | exact HB.out)) hb); have n1_ := Aside0.mk (hbox); have n2_ := Aside0.mk ((by rw [hg]; exact (below_size (by repeat (first | (with_reducible first | exact HB.out | apply below_alloc | apply pw_below_drewN | apply below_drew1) | exact HB.out))) : w.heap.size ≤ gb1473)); have n3_ := Aside0.mk ((by rw [hg]; exact (below_size (by repeat (first | (with_reducible first | exact HB.out | apply below_alloc | apply pw_below_drewN | apply below_drew1) | exact HB.out))) : w.heap.size ≤ gb1473)); clear HB; have HB := n0_; have BK1473 := n1_; have GW1473 := n2_; have GE1473 := n3_; clear n0_ n1_ n2_ n3_; clear hb hbox hg) | ((with_reducible refine gate_dst (N := 3) rfl ?_); refine box_event ?hg (N := 3) ?hd (cs := #[.int .i64 a1_0, .int .i64 a1_1]) (t := 88) ?hr ?_; (case hd => rfl); (case hg => rfl); (case hr => first | (go_simp; done) | (go_simp; rfl)); intro gb1474 hg w5 hbox hb; have n0_ := Aside0.mk (blk_below (g := gb1473) (o := .cells #[.int .i64 a0_0, .int .i64 a0_1, .int .i64 a0_2] 64 (0, 0)) (by (with_reducible repeat (first | refine blk_drewN ?_ _ | refine blk_drew ?_ | refine blk_alloc ?_ _)); exact BK1473.out) hb); have n1_ := Aside0.mk (below_step (by repeat (first | (with_reducible first | exact HB.out | apply below_alloc | apply pw_below_drewN | apply below_drew1 | refine below_set ?_ GE1473.out) | exact HB.out)) hb); have n2_ := Aside0.mk (hbox); have n3_ := Aside0.mk ((by rw [hg]; exact (below_size (by repeat (first | (with_reducible first | exact HB.out | apply below_alloc | apply pw_below_drewN | apply below_drew1 | refine below_set ?_ GE1473.out) | exact HB.out))) : w.heap.size ≤ gb1474)); have n4_ := Aside0.mk ((by rw [hg]; exact (below_size (by repeat (first | (with_reducible first | exact HB.out | apply below_alloc | apply pw_below_drewN | apply below_drew1 | refine below_set ?_ GE1473.out) | exact HB.out))) : w.heap.size ≤ gb1474)); have n5_ := Aside0.mk ((by rw [hg]; exact Nat.ne_of_lt (blk_lt (g := gb1473) (o := .cells #[.int .i64 a0_0, .int .i64 a0_1, .int .i64 a0_2] 64 (0, 0)) (by (with_reducible repeat (first | refine blk_drewN ?_ _ | refine blk_drew ?_ | refine blk_alloc ?_ _)); exact BK1473.out)) : gb1473 ≠ gb1474)); have n6_ := Aside0.mk ((by rw [hg]; exact Nat.ne_of_gt (blk_lt (g := gb1473) (o := .cells #[.int .i64 a0_0, .int .i64 a0_1, .int .i64 a0_2] 64 (0, 0)) (by (with_reducible repeat (first | refine blk_drewN ?_ _ | refine blk_drew ?_ | refine blk_alloc ?_ _)); exact BK1473.out)) : gb1474 ≠ gb1473)); clear BK1473; clear HB; have BK1473 := n0_; have HB := n1_; have BK1474 := n2_; have GW1474 := n3_; have GE1474 := n4_; have NB1473_1474 := n5_; have NB1474_1473 := n6_; clear n0_ n1_ n2_ n3_ n4_ n5_ n6_; clear hb hbox hg) | ((with_reducible refine gate_dst (N := 4) rfl ?_); refine box_event ?hg (N := 4) ?hd (cs := #[.int .i64 0, .int .i64 0, .int .i64 0]) (t := 64) ?hr ?_; (case hd => rfl); (case hg => rfl); (case hr => first | (go_simp; done) | (go_simp; rfl)); intro gb1475 hg w6 hbox hb; have n0_ := Aside0.mk (blk_below (g := gb1473) (o := .cells #[.int .i64 a0_0, .int .i64 a0_1, .int .i64 a0_2] 64 (0, 0)) (by (with_reducible repeat (first | refine blk_drewN ?_ _ | refine blk_drew ?_ | refine blk_alloc ?_ _)); exact BK1473.out) hb); have n1_ := Aside0.mk (blk_below (g := gb1474) (o := .cells #[.int .i64 a1_0, .int .i64 a1_1] 88 (0, 0)) (by (with_reducible repeat (first | refine blk_drewN ?_ _ | refine blk_drew ?_ | refine blk_alloc ?_ _)); exact BK1474.out) hb); have n2_ := Aside0.mk (below_step (by repeat (first | (with_reducible first | exact HB.out | apply below_alloc | apply pw_below_drewN | apply below_drew1 | refine below_set ?_ GE1473.out | refine below_set ?_ GE1474.out) | exact HB.out)) hb); have n3_ := Aside0.mk (hbox); have n4_ := Aside0.mk ((by rw [hg]; exact (below_size (by repeat (first | (with_reducible first | exact HB.out | apply below_alloc | apply pw_below_drewN | apply below_drew1 | refine below_set ?_ GE1473.out | refine below_set ?_ GE1474.out) | exact HB.out))) : w.heap.size ≤ gb1475)); have n5_ := Aside0.mk ((by rw [hg]; exact (below_size (by repeat (first | (with_reducible first | exact HB.out | apply below_alloc | apply pw_below_drewN | apply below_drew1 | refine below_set ?_ GE1473.out | refine below_set ?_ GE1474.out) | exact HB.out))) : w.heap.size ≤ gb1475)); have n6_ := Aside0.mk ((by rw [hg]; exact Nat.ne_of_lt (blk_lt (g := gb1473) (o := .cells #[.int .i64 a0_0, .int .i64 a0_1, .int .i64 a0_2] 64 (0, 0)) (by (with_reducible repeat (first | refine blk_drewN ?_ _ | refine blk_drew ?_ | refine blk_alloc ?_ _)); exact BK1473.out)) : gb1473 ≠ gb1475)); have n7_ := Aside0.mk ((by rw [hg]; exact Nat.ne_of_gt (blk_lt (g := gb1473) (o := .cells #[.int .i64 a0_0, .int .i64 a0_1, .int .i64 a0_2] 64 (0, 0)) (by (with_reducible repeat (first | refine blk_drewN ?_ _ | refine blk_drew ?_ | refine blk_alloc ?_ _)); exact BK1473.out)) : gb1475 ≠ gb1473)); have n8_ := Aside0.mk ((by rw [hg]; exact Nat.ne_of_lt (blk_lt (g := gb1474) (o := .cells #[.int .i64 a1_0, .int .i64 a1_1] 88 (0, 0)) (by (with_reducible repeat (first | refine blk_drewN ?_ _ | refine blk_drew ?_ | refine blk_alloc ?_ _)); exact BK1474.out)) : gb1474 ≠ gb1475)); have n9_ := Aside0.mk ((by rw [hg]; exact Nat.ne_of_gt (blk_lt (g := gb1474) (o := .cells #[.int .i64 a1_0, .int .i64 a1_1] 88 (0, 0)) (by (with_reducible repeat (first | refine blk_drewN ?_ _ | refine blk_drew ?_ | refine blk_alloc ?_ _)); exact BK1474.out)) : gb1475 ≠ gb1474)); clear BK1473; clear BK1474; clear HB; have BK1473 := n0_; have BK1474 := n1_; have HB := n2_; have BK1475 := n3_; have GW1475 := n4_; have GE1475 := n5_; have NB1473_1475 := n6_; have NB1475_1473 := n7_; have NB1474_1475 := n8_; have NB1475_1474 := n9_; clear n0_ n1_ n2_ n3_ n4_ n5_ n6_ n7_ n8_ n9_; clear hb hbox hg))
 (try simp only [Act.put, List.setIfInBounds_toArray, List.set_cons_zero, List.set_cons_succ])
 go_cut [15] (fun v15 wc => ∃ (kq : Nat) (x15_2 : Bool), v15 = .bool x15_2 ∧ Aside0 (impl_MoveNote.j0 kq x15_2 a0_0 a0_1 a0_2 a1_0 a1_1 = some (r1, r2, r3, r4)) ∧ Aside0 (kq ≤ k) ∧ Aside0 (wc.heap[gb1473]? = some (.cells #[.int .i64 a0_0, .int .i64 a0_1, .int .i64 a0_2] 64 (0, 0))) ∧ Aside0 (wc.heap[gb1474]? = some (.cells #[.int .i64 a1_0, .int .i64 a1_1] 88 (0, 0))) ∧ Aside0 (wc.heap[gb1475]? = some (.cells #[.int .i64 0, .int .i64 0, .int .i64 0] 64 (0, 0))) ∧ Aside0 (Below w.heap.size w wc))
 case first =>
  have H := HC3.out
  clear HC3
  replace H := Option.bind_eq_some_iff.mp H
  obtain ⟨t1476, A70, H⟩ := H
  try dsimp only at H
  have A7 := Aside0.mk A70
  clear A70
  by_cases c8 : t1476 = true
  ·
   subst c8
   rw [if_pos rfl] at H
   replace H := Option.bind_eq_some_iff.mp H
   obtain ⟨t1477, A90, H⟩ := H
   try dsimp only at H
   have A9 := Aside0.mk A90
   clear A90
   have H' := Aside0.mk H
   clear H
   have hnb10 := NB1473_1474.out
   have hnc10 := NB1474_1473.out
   have hnb11 := NB1473_1475.out
   have hnc11 := NB1475_1473.out
   have hcz12_0 : w6.cell? ⟨gb1473, 0, none⟩ = some (.int .i64 a0_0) := (blk_cell BK1473.out 0).trans rfl
   have hcz12_1 : w6.cell? ⟨gb1473, 1, none⟩ = some (.int .i64 a0_1) := (blk_cell BK1473.out 1).trans rfl
   have hcz12_2 : w6.cell? ⟨gb1473, 2, none⟩ = some (.int .i64 a0_2) := (blk_cell BK1473.out 2).trans rfl
   have hfz12_0 := blk_frozen BK1473.out 0
   have hfz12_1 := blk_frozen BK1473.out 1
   have hfz12_2 := blk_frozen BK1473.out 2
   go_wp2_with (first | ((with_reducible refine gate_callee (f := 129) rfl ?_); refine goesL_ (some 9) rfl rfl Try.func129 (by kernel_rfl) rfl #[.agg #[.int .i64 a0_0, .int .i64 a0_1, .int .i64 a0_2]] rfl (by (try simp only [List.map_toArray, List.map_cons, List.map_nil]); first | done | rfl | (simp only [List.length_drop, List.length_take]; rfl)) ?_; (with_reducible refine (impl_IsNote.calls a0_0 a0_1 a0_2 true _ A7.out).mono ?_); rintro e w13 ⟨rfl, hb⟩; refine ⟨_, rfl, ?_⟩; have n0_ := Aside0.mk (blk_below (g := gb1473) (o := .cells #[.int .i64 a0_0, .int .i64 a0_1, .int .i64 a0_2] 64 (0, 0)) (by (with_reducible repeat (first | refine blk_drewN ?_ _ | refine blk_drew ?_ | refine blk_alloc ?_ _)); exact BK1473.out) hb); have n1_ := Aside0.mk (blk_below (g := gb1474) (o := .cells #[.int .i64 a1_0, .int .i64 a1_1] 88 (0, 0)) (by (with_reducible repeat (first | refine blk_drewN ?_ _ | refine blk_drew ?_ | refine blk_alloc ?_ _)); exact BK1474.out) hb); have n2_ := Aside0.mk (blk_below (g := gb1475) (o := .cells #[.int .i64 0, .int .i64 0, .int .i64 0] 64 (0, 0)) (by (with_reducible repeat (first | refine blk_drewN ?_ _ | refine blk_drew ?_ | refine blk_alloc ?_ _)); exact BK1475.out) hb); have n3_ := Aside0.mk (below_step (by repeat (first | (with_reducible first | exact HB.out | apply below_alloc | apply pw_below_drewN | apply below_drew1 | refine below_set ?_ GE1473.out | refine below_set ?_ GE1474.out | refine below_set ?_ GE1475.out) | exact HB.out)) hb); clear BK1473; clear BK1474; clear BK1475; clear HB; have BK1473 := n0_; have BK1474 := n1_; have BK1475 := n2_; have HB := n3_; clear n0_ n1_ n2_ n3_; (try clear hb); (try clear hb2); (try clear hk); (try clear hi); have hnb14 := NB1474_1475.out; have hnc14 := NB1475_1474.out; have hcz15_0 : w13.cell? ⟨gb1474, 0, none⟩ = some (.int .i64 a1_0) := (blk_cell BK1474.out 0).trans rfl; have hcz15_1 : w13.cell? ⟨gb1474, 1, none⟩ = some (.int .i64 a1_1) := (blk_cell BK1474.out 1).trans rfl; have hfz15_0 := blk_frozen BK1474.out 0; have hfz15_1 := blk_frozen BK1474.out 1) | (go_at_call 127; (with_reducible refine (impl_isSmall.calls a1_0 a1_1 t1477 _ A9.out).mono ?_); rintro e w16 ⟨rfl, hb⟩; have n0_ := Aside0.mk (blk_below (g := gb1473) (o := .cells #[.int .i64 a0_0, .int .i64 a0_1, .int .i64 a0_2] 64 (0, 0)) (by (with_reducible repeat (first | refine blk_drewN ?_ _ | refine blk_drew ?_ | refine blk_alloc ?_ _)); exact BK1473.out) hb); have n1_ := Aside0.mk (blk_below (g := gb1474) (o := .cells #[.int .i64 a1_0, .int .i64 a1_1] 88 (0, 0)) (by (with_reducible repeat (first | refine blk_drewN ?_ _ | refine blk_drew ?_ | refine blk_alloc ?_ _)); exact BK1474.out) hb); have n2_ := Aside0.mk (blk_below (g := gb1475) (o := .cells #[.int .i64 0, .int .i64 0, .int .i64 0] 64 (0, 0)) (by (with_reducible repeat (first | refine blk_drewN ?_ _ | refine blk_drew ?_ | refine blk_alloc ?_ _)); exact BK1475.out) hb); have n3_ := Aside0.mk (below_step (by repeat (first | (with_reducible first | exact HB.out | apply below_alloc | apply pw_below_drewN | apply below_drew1 | refine below_set ?_ GE1473.out | refine below_set ?_ GE1474.out | refine below_set ?_ GE1475.out) | exact HB.out)) hb); clear BK1473; clear BK1474; clear BK1475; clear HB; have BK1473 := n0_; have BK1474 := n1_; have BK1475 := n2_; have HB := n3_; clear n0_ n1_ n2_ n3_; (try clear hb); (try clear hb2); (try clear hk); (try clear hi)))
   go_meet
   case rel => exact ⟨_, (!t1477), (by first | rfl | (simp; done) | (simp [*]; done)), H', ⟨by first | omega | exact Nat.le_refl _⟩, ⟨by (with_reducible repeat (first | refine blk_drewN ?_ _ | refine blk_drew ?_ | refine blk_alloc ?_ _)); exact BK1473.out⟩, ⟨by (with_reducible repeat (first | refine blk_drewN ?_ _ | refine blk_drew ?_ | refine blk_alloc ?_ _)); exact BK1474.out⟩, ⟨by (with_reducible repeat (first | refine blk_drewN ?_ _ | refine blk_drew ?_ | refine blk_alloc ?_ _)); exact BK1475.out⟩, ⟨by repeat (first | (with_reducible first | exact HB.out | apply below_alloc | apply pw_below_drewN | apply below_drew1 | refine below_set ?_ GE1473.out | refine below_set ?_ GE1474.out | refine below_set ?_ GE1475.out) | exact HB.out)⟩⟩
  ·
   replace c8 := Bool.eq_false_iff.mpr c8
   subst c8
   rw [if_neg (show ¬ (false = true) by decide)] at H
   have H' := Aside0.mk H
   clear H
   have hnb17 := NB1473_1474.out
   have hnc17 := NB1474_1473.out
   have hnb18 := NB1473_1475.out
   have hnc18 := NB1475_1473.out
   have hcz19_0 : w6.cell? ⟨gb1473, 0, none⟩ = some (.int .i64 a0_0) := (blk_cell BK1473.out 0).trans rfl
   have hcz19_1 : w6.cell? ⟨gb1473, 1, none⟩ = some (.int .i64 a0_1) := (blk_cell BK1473.out 1).trans rfl
   have hcz19_2 : w6.cell? ⟨gb1473, 2, none⟩ = some (.int .i64 a0_2) := (blk_cell BK1473.out 2).trans rfl
   have hfz19_0 := blk_frozen BK1473.out 0
   have hfz19_1 := blk_frozen BK1473.out 1
   have hfz19_2 := blk_frozen BK1473.out 2
   go_wp2_with (first | ((with_reducible refine gate_callee (f := 129) rfl ?_); refine goesL_ (some 9) rfl rfl Try.func129 (by kernel_rfl) rfl #[.agg #[.int .i64 a0_0, .int .i64 a0_1, .int .i64 a0_2]] rfl (by (try simp only [List.map_toArray, List.map_cons, List.map_nil]); first | done | rfl | (simp only [List.length_drop, List.length_take]; rfl)) ?_; (with_reducible refine (impl_IsNote.calls a0_0 a0_1 a0_2 false _ A7.out).mono ?_); rintro e w20 ⟨rfl, hb⟩; refine ⟨_, rfl, ?_⟩; have n0_ := Aside0.mk (blk_below (g := gb1473) (o := .cells #[.int .i64 a0_0, .int .i64 a0_1, .int .i64 a0_2] 64 (0, 0)) (by (with_reducible repeat (first | refine blk_drewN ?_ _ | refine blk_drew ?_ | refine blk_alloc ?_ _)); exact BK1473.out) hb); have n1_ := Aside0.mk (blk_below (g := gb1474) (o := .cells #[.int .i64 a1_0, .int .i64 a1_1] 88 (0, 0)) (by (with_reducible repeat (first | refine blk_drewN ?_ _ | refine blk_drew ?_ | refine blk_alloc ?_ _)); exact BK1474.out) hb); have n2_ := Aside0.mk (blk_below (g := gb1475) (o := .cells #[.int .i64 0, .int .i64 0, .int .i64 0] 64 (0, 0)) (by (with_reducible repeat (first | refine blk_drewN ?_ _ | refine blk_drew ?_ | refine blk_alloc ?_ _)); exact BK1475.out) hb); have n3_ := Aside0.mk (below_step (by repeat (first | (with_reducible first | exact HB.out | apply below_alloc | apply pw_below_drewN | apply below_drew1 | refine below_set ?_ GE1473.out | refine below_set ?_ GE1474.out | refine below_set ?_ GE1475.out) | exact HB.out)) hb); clear BK1473; clear BK1474; clear BK1475; clear HB; have BK1473 := n0_; have BK1474 := n1_; have BK1475 := n2_; have HB := n3_; clear n0_ n1_ n2_ n3_; (try clear hb); (try clear hb2); (try clear hk); (try clear hi)))
   go_meet
   case rel => exact ⟨_, (true), (by first | rfl | (simp; done) | (simp [*]; done)), H', ⟨by first | omega | exact Nat.le_refl _⟩, ⟨by (with_reducible repeat (first | refine blk_drewN ?_ _ | refine blk_drew ?_ | refine blk_alloc ?_ _)); exact BK1473.out⟩, ⟨by (with_reducible repeat (first | refine blk_drewN ?_ _ | refine blk_drew ?_ | refine blk_alloc ?_ _)); exact BK1474.out⟩, ⟨by (with_reducible repeat (first | refine blk_drewN ?_ _ | refine blk_drew ?_ | refine blk_alloc ?_ _)); exact BK1475.out⟩, ⟨by repeat (first | (with_reducible first | exact HB.out | apply below_alloc | apply pw_below_drewN | apply below_drew1 | refine below_set ?_ GE1473.out | refine below_set ?_ GE1474.out | refine below_set ?_ GE1475.out) | exact HB.out)⟩⟩
 case rest =>
  clear HC3
  try clear c1
  try clear p2
  try clear c7
  try clear c8
  try clear c10
  try clear c11
  try clear c12
  try clear c14
  try clear c17
  try clear c18
  try clear hcz12_0
  try clear hcz12_1
  try clear hcz12_2
  try clear hcz15_0
  try clear hcz15_1
  try clear hcz19_0
  try clear hcz19_1
  try clear hcz19_2
  try clear hfz12_0
  try clear hfz12_1
  try clear hfz12_2
  try clear hfz15_0
  try clear hfz15_1
  try clear hfz19_0
  try clear hfz19_1
  try clear hfz19_2
  obtain ⟨kq, x15_2, rfl, HA, HJ2, BK1473, BK1474, BK1475, HB⟩ := hcut
  cases kq with
  | zero => exact absurd HA.out (by simp [impl_MoveNote.j0])
  | succ kj2 =>
   have H := HA.out
   clear HA
   simp only [impl_MoveNote.j0] at H
   by_cases c21 : x15_2 = true
   ·
    subst c21
    rw [if_pos rfl] at H
    simp only [Option.some.injEq, Prod.mk.injEq] at H
    obtain ⟨rfl, rfl, rfl, rfl⟩ := H
    have hnb22 := NB1475_1473.out
    have hnc22 := NB1473_1475.out
    have hnb23 := NB1475_1474.out
    have hnc23 := NB1474_1475.out
    have hcz24_0 : wc.cell? ⟨gb1475, 0, none⟩ = some (.int .i64 0) := (blk_cell BK1475.out 0).trans rfl
    have hcz24_1 : wc.cell? ⟨gb1475, 1, none⟩ = some (.int .i64 0) := (blk_cell BK1475.out 1).trans rfl
    have hcz24_2 : wc.cell? ⟨gb1475, 2, none⟩ = some (.int .i64 0) := (blk_cell BK1475.out 2).trans rfl
    have hfz24_0 := blk_frozen BK1475.out 0
    have hfz24_1 := blk_frozen BK1475.out 1
    have hfz24_2 := blk_frozen BK1475.out 2
    go_wp2
    refine bodyPost_ret (results_ct rfl _ _ gb1475 64 #[.int .i64 0, .int .i64 0, .int .i64 0] (0, 0) _ rfl (by (with_reducible repeat (first | refine blk_drewN ?_ _ | refine blk_drew ?_ | refine blk_alloc ?_ _)); refine blk_put (cs := #[.int .i64 0, .int .i64 0, .int .i64 0]) ?_ 2 _ rfl; (with_reducible repeat (first | refine blk_drewN ?_ _ | refine blk_drew ?_ | refine blk_alloc ?_ _)); refine blk_put (cs := #[.int .i64 0, .int .i64 0, .int .i64 0]) ?_ 1 _ rfl; (with_reducible repeat (first | refine blk_drewN ?_ _ | refine blk_drew ?_ | refine blk_alloc ?_ _)); refine blk_put (cs := #[.int .i64 0, .int .i64 0, .int .i64 0]) ?_ 0 _ rfl; (with_reducible repeat (first | refine blk_drewN ?_ _ | refine blk_drew ?_ | refine blk_alloc ?_ _)); exact BK1475.out) Try.underlying64 rfl (by kernel_rfl)) rfl ?_
    exact ⟨by first | rfl | (simp [errW_none, errW_some] <;> rfl) | (simp [*, errW_none, errW_some] <;> rfl), by repeat (first | (with_reducible first | exact HB.out | apply below_alloc | apply pw_below_drewN | apply below_drew1 | refine below_set ?_ GE1473.out | refine below_set ?_ GE1474.out | refine below_set ?_ GE1475.out) | exact HB.out)⟩
   ·
    replace c21 := Bool.eq_false_iff.mpr c21
    subst c21
    rw [if_neg (show ¬ (false = true) by decide)] at H
    by_cases c25 : (wrap64 ((wrap64 ((wrap64 (7 * a0_2)) + a0_0)) + a1_0)) < 0
    ·
     rw [if_pos c25] at H
     have c25b0 : decide ((wrap64 ((wrap64 ((wrap64 (7 * a0_2)) + a0_0)) + a1_0)) < 0) = true := decide_eq_true c25
     clear c25
     simp only [Option.some.injEq, Prod.mk.injEq] at H
     obtain ⟨rfl, rfl, rfl, rfl⟩ := H
     have hnb26 := NB1473_1474.out
     have hnc26 := NB1474_1473.out
     have hnb27 := NB1473_1475.out
     have hnc27 := NB1475_1473.out
     have hcz28_0 : wc.cell? ⟨gb1473, 0, none⟩ = some (.int .i64 a0_0) := (blk_cell BK1473.out 0).trans rfl
     have hcz28_1 : wc.cell? ⟨gb1473, 1, none⟩ = some (.int .i64 a0_1) := (blk_cell BK1473.out 1).trans rfl
     have hcz28_2 : wc.cell? ⟨gb1473, 2, none⟩ = some (.int .i64 a0_2) := (blk_cell BK1473.out 2).trans rfl
     have hfz28_0 := blk_frozen BK1473.out 0
     have hfz28_1 := blk_frozen BK1473.out 1
     have hfz28_2 := blk_frozen BK1473.out 2
     have hnb29 := NB1474_1475.out
     have hnc29 := NB1475_1474.out
     have hcz30_0 : wc.cell? ⟨gb1474, 0, none⟩ = some (.int .i64 a1_0) := (blk_cell BK1474.out 0).trans rfl
     have hcz30_1 : wc.cell? ⟨gb1474, 1, none⟩ = some (.int .i64 a1_1) := (blk_cell BK1474.out 1).trans rfl
     have hfz30_0 := blk_frozen BK1474.out 0
     have hfz30_1 := blk_frozen BK1474.out 1
     have hcz31_0 : wc.cell? ⟨gb1475, 0, none⟩ = some (.int .i64 0) := (blk_cell BK1475.out 0).trans rfl
     have hcz31_1 : wc.cell? ⟨gb1475, 1, none⟩ = some (.int .i64 0) := (blk_cell BK1475.out 1).trans rfl
     have hcz31_2 : wc.cell? ⟨gb1475, 2, none⟩ = some (.int .i64 0) := (blk_cell BK1475.out 2).trans rfl
     have hfz31_0 := blk_frozen BK1475.out 0
     have hfz31_1 := blk_frozen BK1475.out 1
     have hfz31_2 := blk_frozen BK1475.out 2
     go_wp2
     refine bodyPost_ret (results_ct rfl _ _ gb1475 64 #[.int .i64 0, .int .i64 0, .int .i64 0] (0, 0) _ rfl (by (with_reducible repeat (first | refine blk_drewN ?_ _ | refine blk_drew ?_ | refine blk_alloc ?_ _)); refine blk_put (cs := #[.int .i64 0, .int .i64 0, .int .i64 0]) ?_ 2 _ rfl; (with_reducible repeat (first | refine blk_drewN ?_ _ | refine blk_drew ?_ | refine blk_alloc ?_ _)); refine blk_put (cs := #[.int .i64 0, .int .i64 0, .int .i64 0]) ?_ 1 _ rfl; (with_reducible repeat (first | refine blk_drewN ?_ _ | refine blk_drew ?_ | refine blk_alloc ?_ _)); refine blk_put (cs := #[.int .i64 0, .int .i64 0, .int .i64 0]) ?_ 0 _ rfl; (with_reducible repeat (first | refine blk_drewN ?_ _ | refine blk_drew ?_ | refine blk_alloc ?_ _)); exact BK1475.out) Try.underlying64 rfl (by kernel_rfl)) rfl ?_
     exact ⟨by first | rfl | (simp [errW_none, errW_some] <;> rfl) | (simp [*, errW_none, errW_some] <;> rfl), by repeat (first | (with_reducible first | exact HB.out | apply below_alloc | apply pw_below_drewN | apply below_drew1 | refine below_set ?_ GE1473.out | refine below_set ?_ GE1474.out | refine below_set ?_ GE1475.out) | exact HB.out)⟩
    ·
     rw [if_neg c25] at H
     have c25b0 : decide ((wrap64 ((wrap64 ((wrap64 (7 * a0_2)) + a0_0)) + a1_0)) < 0) = false := decide_eq_false c25
     clear c25
     replace H := Option.bind_eq_some_iff.mp H
     obtain ⟨t1479, A320, H⟩ := H
     try dsimp only at H
     have A32 := Aside0.mk A320
     clear A320
     replace H := Option.bind_eq_some_iff.mp H
     obtain ⟨t1480, A330, H⟩ := H
     try dsimp only at H
     have A33 := Aside0.mk A330
     clear A330
     replace H := Option.bind_eq_some_iff.mp H
     obtain ⟨t1481, A340, H⟩ := H
     try dsimp only at H
     have A34 := Aside0.mk A340
     clear A340
     by_cases c35 : t1481 = true
     ·
      subst c35
      rw [if_pos rfl] at H
      simp only [Option.some.injEq, Prod.mk.injEq] at H
      obtain ⟨rfl, rfl, rfl, rfl⟩ := H
      have hnb36 := NB1473_1474.out
      have hnc36 := NB1474_1473.out
      have hnb37 := NB1473_1475.out
      have hnc37 := NB1475_1473.out
      have hcz38_0 : wc.cell? ⟨gb1473, 0, none⟩ = some (.int .i64 a0_0) := (blk_cell BK1473.out 0).trans rfl
      have hcz38_1 : wc.cell? ⟨gb1473, 1, none⟩ = some (.int .i64 a0_1) := (blk_cell BK1473.out 1).trans rfl
      have hcz38_2 : wc.cell? ⟨gb1473, 2, none⟩ = some (.int .i64 a0_2) := (blk_cell BK1473.out 2).trans rfl
      have hfz38_0 := blk_frozen BK1473.out 0
      have hfz38_1 := blk_frozen BK1473.out 1
      have hfz38_2 := blk_frozen BK1473.out 2
      have hnb39 := NB1474_1475.out
      have hnc39 := NB1475_1474.out
      have hcz40_0 : wc.cell? ⟨gb1474, 0, none⟩ = some (.int .i64 a1_0) := (blk_cell BK1474.out 0).trans rfl
      have hcz40_1 : wc.cell? ⟨gb1474, 1, none⟩ = some (.int .i64 a1_1) := (blk_cell BK1474.out 1).trans rfl
      have hfz40_0 := blk_frozen BK1474.out 0
      have hfz40_1 := blk_frozen BK1474.out 1
      try go_wp2_with (first | ((with_reducible refine gate_dst (N := 7) rfl ?_); refine box_event ?hg (N := 7) ?hd (cs := #[.int .i64 0, .int .i64 0, .int .i64 0]) (t := 64) ?hr ?_; (case hd => rfl); (case hg => rfl); (case hr => first | (go_simp; done) | (go_simp; rfl)); intro gb1478 hg w41 hbox hb; have n0_ := Aside0.mk (blk_below (g := gb1473) (o := .cells #[.int .i64 a0_0, .int .i64 a0_1, .int .i64 a0_2] 64 (0, 0)) (by (with_reducible repeat (first | refine blk_drewN ?_ _ | refine blk_drew ?_ | refine blk_alloc ?_ _)); exact BK1473.out) hb); have n1_ := Aside0.mk (blk_below (g := gb1474) (o := .cells #[.int .i64 a1_0, .int .i64 a1_1] 88 (0, 0)) (by (with_reducible repeat (first | refine blk_drewN ?_ _ | refine blk_drew ?_ | refine blk_alloc ?_ _)); exact BK1474.out) hb); have n2_ := Aside0.mk (blk_below (g := gb1475) (o := .cells #[.int .i64 0, .int .i64 0, .int .i64 0] 64 (0, 0)) (by (with_reducible repeat (first | refine blk_drewN ?_ _ | refine blk_drew ?_ | refine blk_alloc ?_ _)); exact BK1475.out) hb); have n3_ := Aside0.mk (below_step (by repeat (first | (with_reducible first | exact HB.out | apply below_alloc | apply pw_below_drewN | apply below_drew1 | refine below_set ?_ GE1473.out | refine below_set ?_ GE1474.out | refine below_set ?_ GE1475.out) | exact HB.out)) hb); have n4_ := Aside0.mk (hbox); have n5_ := Aside0.mk ((by rw [hg]; exact (below_size (by repeat (first | (with_reducible first | exact HB.out | apply below_alloc | apply pw_below_drewN | apply below_drew1 | refine below_set ?_ GE1473.out | refine below_set ?_ GE1474.out | refine below_set ?_ GE1475.out) | exact HB.out))) : w.heap.size ≤ gb1478)); have n6_ := Aside0.mk ((by rw [hg]; exact (below_size (by repeat (first | (with_reducible first | exact HB.out | apply below_alloc | apply pw_below_drewN | apply below_drew1 | refine below_set ?_ GE1473.out | refine below_set ?_ GE1474.out | refine below_set ?_ GE1475.out) | exact HB.out))) : w.heap.size ≤ gb1478)); have n7_ := Aside0.mk ((by rw [hg]; exact Nat.ne_of_lt (blk_lt (g := gb1473) (o := .cells #[.int .i64 a0_0, .int .i64 a0_1, .int .i64 a0_2] 64 (0, 0)) (by (with_reducible repeat (first | refine blk_drewN ?_ _ | refine blk_drew ?_ | refine blk_alloc ?_ _)); exact BK1473.out)) : gb1473 ≠ gb1478)); have n8_ := Aside0.mk ((by rw [hg]; exact Nat.ne_of_gt (blk_lt (g := gb1473) (o := .cells #[.int .i64 a0_0, .int .i64 a0_1, .int .i64 a0_2] 64 (0, 0)) (by (with_reducible repeat (first | refine blk_drewN ?_ _ | refine blk_drew ?_ | refine blk_alloc ?_ _)); exact BK1473.out)) : gb1478 ≠ gb1473)); have n9_ := Aside0.mk ((by rw [hg]; exact Nat.ne_of_lt (blk_lt (g := gb1474) (o := .cells #[.int .i64 a1_0, .int .i64 a1_1] 88 (0, 0)) (by (with_reducible repeat (first | refine blk_drewN ?_ _ | refine blk_drew ?_ | refine blk_alloc ?_ _)); exact BK1474.out)) : gb1474 ≠ gb1478)); have n10_ := Aside0.mk ((by rw [hg]; exact Nat.ne_of_gt (blk_lt (g := gb1474) (o := .cells #[.int .i64 a1_0, .int .i64 a1_1] 88 (0, 0)) (by (with_reducible repeat (first | refine blk_drewN ?_ _ | refine blk_drew ?_ | refine blk_alloc ?_ _)); exact BK1474.out)) : gb1478 ≠ gb1474)); have n11_ := Aside0.mk ((by rw [hg]; exact Nat.ne_of_lt (blk_lt (g := gb1475) (o := .cells #[.int .i64 0, .int .i64 0, .int .i64 0] 64 (0, 0)) (by (with_reducible repeat (first | refine blk_drewN ?_ _ | refine blk_drew ?_ | refine blk_alloc ?_ _)); exact BK1475.out)) : gb1475 ≠ gb1478)); have n12_ := Aside0.mk ((by rw [hg]; exact Nat.ne_of_gt (blk_lt (g := gb1475) (o := .cells #[.int .i64 0, .int .i64 0, .int .i64 0] 64 (0, 0)) (by (with_reducible repeat (first | refine blk_drewN ?_ _ | refine blk_drew ?_ | refine blk_alloc ?_ _)); exact BK1475.out)) : gb1478 ≠ gb1475)); clear BK1473; clear BK1474; clear BK1475; clear HB; have BK1473 := n0_; have BK1474 := n1_; have BK1475 := n2_; have HB := n3_; have BK1478 := n4_; have GW1478 := n5_; have GE1478 := n6_; have NB1473_1478 := n7_; have NB1478_1473 := n8_; have NB1474_1478 := n9_; have NB1478_1474 := n10_; have NB1475_1478 := n11_; have NB1478_1475 := n12_; clear n0_ n1_ n2_ n3_ n4_ n5_ n6_ n7_ n8_ n9_ n10_ n11_ n12_; clear hb hbox hg; have hnb42 := NB1478_1473.out; have hnc42 := NB1473_1478.out; have hnb43 := NB1478_1474.out; have hnc43 := NB1474_1478.out; have hnb44 := NB1478_1475.out; have hnc44 := NB1475_1478.out; have hcz45_0 : w41.cell? ⟨gb1478, 0, none⟩ = some (.int .i64 0) := (blk_cell BK1478.out 0).trans rfl; have hcz45_1 : w41.cell? ⟨gb1478, 1, none⟩ = some (.int .i64 0) := (blk_cell BK1478.out 1).trans rfl; have hcz45_2 : w41.cell? ⟨gb1478, 2, none⟩ = some (.int .i64 0) := (blk_cell BK1478.out 2).trans rfl; have hfz45_0 := blk_frozen BK1478.out 0; have hfz45_1 := blk_frozen BK1478.out 1; have hfz45_2 := blk_frozen BK1478.out 2))
      have n0_ : Aside0 ((((w41.setCell ⟨gb1478, 0, none⟩ (.int .i64 (Int.tmod (wrap64 ((wrap64 ((wrap64 (7 * a0_2)) + a0_0)) + a1_0)) 7))).setCell ⟨gb1478, 1, none⟩ (.int .i64 0)).setCell ⟨gb1478, 2, none⟩ (.int .i64 (wrap64 (Int.tdiv (wrap64 ((wrap64 ((wrap64 (7 * a0_2)) + a0_0)) + a1_0)) 7)))).heap[gb1473]? = some (.cells #[.int .i64 a0_0, .int .i64 a0_1, .int .i64 a0_2] 64 (0, 0))) := ⟨by (with_reducible repeat (first | refine blk_drewN ?_ _ | refine blk_drew ?_ | refine blk_alloc ?_ _)); refine blk_far ?_ NB1473_1478.out _; (with_reducible repeat (first | refine blk_drewN ?_ _ | refine blk_drew ?_ | refine blk_alloc ?_ _)); refine blk_far ?_ NB1473_1478.out _; (with_reducible repeat (first | refine blk_drewN ?_ _ | refine blk_drew ?_ | refine blk_alloc ?_ _)); refine blk_far ?_ NB1473_1478.out _; (with_reducible repeat (first | refine blk_drewN ?_ _ | refine blk_drew ?_ | refine blk_alloc ?_ _)); exact BK1473.out⟩
      have n1_ : Aside0 ((((w41.setCell ⟨gb1478, 0, none⟩ (.int .i64 (Int.tmod (wrap64 ((wrap64 ((wrap64 (7 * a0_2)) + a0_0)) + a1_0)) 7))).setCell ⟨gb1478, 1, none⟩ (.int .i64 0)).setCell ⟨gb1478, 2, none⟩ (.int .i64 (wrap64 (Int.tdiv (wrap64 ((wrap64 ((wrap64 (7 * a0_2)) + a0_0)) + a1_0)) 7)))).heap[gb1474]? = some (.cells #[.int .i64 a1_0, .int .i64 a1_1] 88 (0, 0))) := ⟨by (with_reducible repeat (first | refine blk_drewN ?_ _ | refine blk_drew ?_ | refine blk_alloc ?_ _)); refine blk_far ?_ NB1474_1478.out _; (with_reducible repeat (first | refine blk_drewN ?_ _ | refine blk_drew ?_ | refine blk_alloc ?_ _)); refine blk_far ?_ NB1474_1478.out _; (with_reducible repeat (first | refine blk_drewN ?_ _ | refine blk_drew ?_ | refine blk_alloc ?_ _)); refine blk_far ?_ NB1474_1478.out _; (with_reducible repeat (first | refine blk_drewN ?_ _ | refine blk_drew ?_ | refine blk_alloc ?_ _)); exact BK1474.out⟩
      have n2_ : Aside0 ((((w41.setCell ⟨gb1478, 0, none⟩ (.int .i64 (Int.tmod (wrap64 ((wrap64 ((wrap64 (7 * a0_2)) + a0_0)) + a1_0)) 7))).setCell ⟨gb1478, 1, none⟩ (.int .i64 0)).setCell ⟨gb1478, 2, none⟩ (.int .i64 (wrap64 (Int.tdiv (wrap64 ((wrap64 ((wrap64 (7 * a0_2)) + a0_0)) + a1_0)) 7)))).heap[gb1475]? = some (.cells #[.int .i64 0, .int .i64 0, .int .i64 0] 64 (0, 0))) := ⟨by (with_reducible repeat (first | refine blk_drewN ?_ _ | refine blk_drew ?_ | refine blk_alloc ?_ _)); refine blk_far ?_ NB1475_1478.out _; (with_reducible repeat (first | refine blk_drewN ?_ _ | refine blk_drew ?_ | refine blk_alloc ?_ _)); refine blk_far ?_ NB1475_1478.out _; (with_reducible repeat (first | refine blk_drewN ?_ _ | refine blk_drew ?_ | refine blk_alloc ?_ _)); refine blk_far ?_ NB1475_1478.out _; (with_reducible repeat (first | refine blk_drewN ?_ _ | refine blk_drew ?_ | refine blk_alloc ?_ _)); exact BK1475.out⟩
      have n3_ : Aside0 ((((w41.setCell ⟨gb1478, 0, none⟩ (.int .i64 (Int.tmod (wrap64 ((wrap64 ((wrap64 (7 * a0_2)) + a0_0)) + a1_0)) 7))).setCell ⟨gb1478, 1, none⟩ (.int .i64 0)).setCell ⟨gb1478, 2, none⟩ (.int .i64 (wrap64 (Int.tdiv (wrap64 ((wrap64 ((wrap64 (7 * a0_2)) + a0_0)) + a1_0)) 7)))).heap[gb1478]? = some (.cells #[.int .i64 (Int.tmod (wrap64 ((wrap64 ((wrap64 (7 * a0_2)) + a0_0)) + a1_0)) 7), .int .i64 0, .int .i64 (wrap64 (Int.tdiv (wrap64 ((wrap64 ((wrap64 (7 * a0_2)) + a0_0)) + a1_0)) 7))] 64 (0, 0))) := ⟨by (with_reducible repeat (first | refine blk_drewN ?_ _ | refine blk_drew ?_ | refine blk_alloc ?_ _)); refine blk_put (cs := #[.int .i64 (Int.tmod (wrap64 ((wrap64 ((wrap64 (7 * a0_2)) + a0_0)) + a1_0)) 7), .int .i64 0, .int .i64 0]) ?_ 2 _ rfl; (with_reducible repeat (first | refine blk_drewN ?_ _ | refine blk_drew ?_ | refine blk_alloc ?_ _)); refine blk_put (cs := #[.int .i64 (Int.tmod (wrap64 ((wrap64 ((wrap64 (7 * a0_2)) + a0_0)) + a1_0)) 7), .int .i64 0, .int .i64 0]) ?_ 1 _ rfl; (with_reducible repeat (first | refine blk_drewN ?_ _ | refine blk_drew ?_ | refine blk_alloc ?_ _)); refine blk_put (cs := #[.int .i64 0, .int .i64 0, .int .i64 0]) ?_ 0 _ rfl; (with_reducible repeat (first | refine blk_drewN ?_ _ | refine blk_drew ?_ | refine blk_alloc ?_ _)); exact BK1478.out⟩
      have n4_ : Aside0 (Below w.heap.size w (((w41.setCell ⟨gb1478, 0, none⟩ (.int .i64 (Int.tmod (wrap64 ((wrap64 ((wrap64 (7 * a0_2)) + a0_0)) + a1_0)) 7))).setCell ⟨gb1478, 1, none⟩ (.int .i64 0)).setCell ⟨gb1478, 2, none⟩ (.int .i64 (wrap64 (Int.tdiv (wrap64 ((wrap64 ((wrap64 (7 * a0_2)) + a0_0)) + a1_0)) 7))))) := ⟨by repeat (first | (with_reducible first | exact HB.out | apply below_alloc | apply pw_below_drewN | apply below_drew1 | refine below_set ?_ GE1473.out | refine below_set ?_ GE1474.out | refine below_set ?_ GE1475.out | refine below_set ?_ GE1478.out) | exact HB.out)⟩
      (try clear BK1473)
      (try clear BK1474)
      (try clear BK1475)
      (try clear BK1478)
      (try clear HB)
      generalize (((w41.setCell ⟨gb1478, 0, none⟩ (.int .i64 (Int.tmod (wrap64 ((wrap64 ((wrap64 (7 * a0_2)) + a0_0)) + a1_0)) 7))).setCell ⟨gb1478, 1, none⟩ (.int .i64 0)).setCell ⟨gb1478, 2, none⟩ (.int .i64 (wrap64 (Int.tdiv (wrap64 ((wrap64 ((wrap64 (7 * a0_2)) + a0_0)) + a1_0)) 7)))) = w46 at n0_ n1_ n2_ n3_ n4_ ⊢
      have BK1473 := n0_
      have BK1474 := n1_
      have BK1475 := n2_
      have BK1478 := n3_
      have HB := n4_
      clear n0_ n1_ n2_ n3_ n4_
      have n0_ := Aside0.mk (blk_drew BK1473.out)
      have n1_ := Aside0.mk (blk_drew BK1474.out)
      have n2_ := Aside0.mk (blk_drew BK1475.out)
      have n3_ := Aside0.mk (blk_drew BK1478.out)
      have n4_ := Aside0.mk (below_drew1 HB.out)
      clear BK1473
      clear BK1474
      clear BK1475
      clear BK1478
      clear HB
      have BK1473 := n0_
      have BK1474 := n1_
      have BK1475 := n2_
      have BK1478 := n3_
      have HB := n4_
      clear n0_ n1_ n2_ n3_ n4_
      refine start_ (n := 10) (S := fun w' => w'.cell? ⟨gb1473, 0, none⟩ = some (.int .i64 a0_0) ∧ w'.cell? ⟨gb1473, 1, none⟩ = some (.int .i64 a0_1) ∧ w'.cell? ⟨gb1473, 2, none⟩ = some (.int .i64 a0_2) ∧ w'.cell? ⟨gb1474, 0, none⟩ = some (.int .i64 a1_0) ∧ w'.cell? ⟨gb1474, 1, none⟩ = some (.int .i64 a1_1) ∧ w'.cell? ⟨gb1478, 0, none⟩ = some (.int .i64 (Int.tmod (wrap64 ((wrap64 ((wrap64 (7 * a0_2)) + a0_0)) + a1_0)) 7)) ∧ w'.cell? ⟨gb1478, 1, none⟩ = some (.int .i64 0) ∧ w'.cell? ⟨gb1478, 2, none⟩ = some (.int .i64 (wrap64 (Int.tdiv (wrap64 ((wrap64 ((wrap64 (7 * a0_2)) + a0_0)) + a1_0)) 7)))) (ds := [9]) #[false, false, false, false, false, false, false, false, false, false] (by kernel_rfl) rfl rfl ⟨(blk_cell BK1473.out 0).trans rfl, (blk_cell BK1473.out 1).trans rfl, (blk_cell BK1473.out 2).trans rfl, (blk_cell BK1474.out 0).trans rfl, (blk_cell BK1474.out 1).trans rfl, (blk_cell BK1478.out 0).trans rfl, (blk_cell BK1478.out 1).trans rfl, (blk_cell BK1478.out 2).trans rfl⟩ (fun hHeld => ?_); refine with_tabW impl_MoveNote.tab7 impl_MoveNote.bits7 (fun HT_ HW_ => ?_)
      generalize w46.drew = w47 at BK1473 BK1474 BK1475 BK1478 HB hHeld ⊢
      refine pure_ (i := 2) (N := some 36) (v := ?_) (a' := ?_) #[false, false, true, false, false, false, false, false, false, false] rfl rfl (any_of HT_.out (by kernel_rfl)) (fun _ _ _ h => h) (Or.inl ⟨by rfl, ?_⟩) ?_ ?_
      rotate_left
      ·
       intro w'
       go_simp
       with_reducible rfl
      rotate_left
      ·
       simp only [Act.put, List.setIfInBounds_toArray, List.set_cons_zero, List.set_cons_succ, i64_w, i32_w]
       rfl
      refine take_ (i := 0) (N := some 34) (v := ?_) (a' := ?_) #[true, false, true, false, false, false, false, false, false, false] rfl rfl (take_ofW HT_.out HW_.out (by kernel_rfl)) (fun _ _ _ h => h) (Or.inl ⟨by rfl, ?_⟩) hHeld ?_ ?_
      rotate_left
      ·
       rintro w' ⟨s0, s1, s2, s3, s4, s5, s6, s7⟩
       go_simp
       with_reducible rfl
      rotate_left
      ·
       simp only [Act.put, List.setIfInBounds_toArray, List.set_cons_zero, List.set_cons_succ, i64_w, i32_w]
       rfl
      refine take_ (i := 3) (N := some 37) (v := ?_) (a' := ?_) #[true, false, true, true, false, false, false, false, false, false] rfl rfl (take_ofW HT_.out HW_.out (by kernel_rfl)) (fun _ _ _ h => h) (Or.inl ⟨by rfl, ?_⟩) hHeld ?_ ?_
      rotate_left
      ·
       rintro w' ⟨s0, s1, s2, s3, s4, s5, s6, s7⟩
       go_simp
       with_reducible rfl
      rotate_left
      ·
       simp only [Act.put, List.setIfInBounds_toArray, List.set_cons_zero, List.set_cons_succ, i64_w, i32_w]
       rfl
      refine take_ (i := 5) (N := some 39) (v := ?_) (a' := ?_) #[true, false, true, true, false, true, false, false, false, false] rfl rfl (take_ofW HT_.out HW_.out (by kernel_rfl)) (fun _ _ _ h => h) (Or.inl ⟨by rfl, ?_⟩) hHeld ?_ ?_
      rotate_left
      ·
       rintro w' ⟨s0, s1, s2, s3, s4, s5, s6, s7⟩
       go_simp
       with_reducible rfl
      rotate_left
      ·
       simp only [Act.put, List.setIfInBounds_toArray, List.set_cons_zero, List.set_cons_succ, i64_w, i32_w]
       rfl
      refine one_ (i := 1) (N := some 35) #[true, true, true, true, false, true, false, false, false, false] rfl rfl (one_of HT_.out (by kernel_rfl)) (by decide) (fun K hK => ?_)
      refine goes_ Try.func105 (by kernel_rfl) rfl #[.agg #[.int .i64 a0_0, .int .i64 a0_1, .int .i64 a0_2]] (by rfl) rfl rfl (by (try simp only [List.map_toArray, List.map_cons, List.map_nil]); first | done | rfl | (simp only [List.length_drop, List.length_take]; rfl)) ?_
      with_reducible refine (impl_Note_pitch.calls a0_0 a0_1 a0_2 t1479 _ A32.out).mono ?_
      rintro e w48 ⟨rfl, hb⟩
      refine ⟨_, rfl, ?_⟩
      have n0_ := Aside0.mk (blk_below (g := gb1473) (o := .cells #[.int .i64 a0_0, .int .i64 a0_1, .int .i64 a0_2] 64 (0, 0)) (by (with_reducible repeat (first | refine blk_drewN ?_ _ | refine blk_drew ?_ | refine blk_alloc ?_ _)); exact BK1473.out) hb)
      have n1_ := Aside0.mk (blk_below (g := gb1474) (o := .cells #[.int .i64 a1_0, .int .i64 a1_1] 88 (0, 0)) (by (with_reducible repeat (first | refine blk_drewN ?_ _ | refine blk_drew ?_ | refine blk_alloc ?_ _)); exact BK1474.out) hb)
      have n2_ := Aside0.mk (blk_below (g := gb1475) (o := .cells #[.int .i64 0, .int .i64 0, .int .i64 0] 64 (0, 0)) (by (with_reducible repeat (first | refine blk_drewN ?_ _ | refine blk_drew ?_ | refine blk_alloc ?_ _)); exact BK1475.out) hb)
      have n3_ := Aside0.mk (blk_below (g := gb1478) (o := .cells #[.int .i64 (Int.tmod (wrap64 ((wrap64 ((wrap64 (7 * a0_2)) + a0_0)) + a1_0)) 7), .int .i64 0, .int .i64 (wrap64 (Int.tdiv (wrap64 ((wrap64 ((wrap64 (7 * a0_2)) + a0_0)) + a1_0)) 7))] 64 (0, 0)) (by (with_reducible repeat (first | refine blk_drewN ?_ _ | refine blk_drew ?_ | refine blk_alloc ?_ _)); exact BK1478.out) hb)
      have n4_ := Aside0.mk (below_step (by repeat (first | (with_reducible first | exact HB.out | apply below_alloc | apply pw_below_drewN | apply below_drew1 | refine below_set ?_ GE1473.out | refine below_set ?_ GE1474.out | refine below_set ?_ GE1475.out | refine below_set ?_ GE1478.out) | exact HB.out)) hb)
      clear BK1473
      clear BK1474
      clear BK1475
      clear BK1478
      clear HB
      have BK1473 := n0_
      have BK1474 := n1_
      have BK1475 := n2_
      have BK1478 := n3_
      have HB := n4_
      clear n0_ n1_ n2_ n3_ n4_
      (try clear hb)
      (try clear hb2)
      (try clear hk)
      (try clear hi)
      refine hK.out _ _ ⟨(blk_cell BK1473.out 0).trans rfl, (blk_cell BK1473.out 1).trans rfl, (blk_cell BK1473.out 2).trans rfl, (blk_cell BK1474.out 0).trans rfl, (blk_cell BK1474.out 1).trans rfl, (blk_cell BK1478.out 0).trans rfl, (blk_cell BK1478.out 1).trans rfl, (blk_cell BK1478.out 2).trans rfl⟩ (fun hHeld => ?_)
      clear hK K
      refine norm_ (a' := ?_) ?_ ?_
      rotate_left
      ·
       show Act.put _ (some 35) _ = _
       simp only [Act.put, List.setIfInBounds_toArray, List.set_cons_zero, List.set_cons_succ, i64_w, i32_w]
       rfl
      refine pure_ (i := 4) (N := some 38) (v := ?_) (a' := ?_) #[true, true, true, true, true, true, false, false, false, false] rfl rfl (any_of HT_.out (by kernel_rfl)) (fun _ _ _ h => h) (Or.inl ⟨by rfl, ?_⟩) ?_ ?_
      rotate_left
      ·
       intro w'
       go_simp
       with_reducible rfl
      rotate_left
      ·
       simp only [Act.put, List.setIfInBounds_toArray, List.set_cons_zero, List.set_cons_succ, i64_w, i32_w]
       rfl
      refine one_ (i := 6) (N := some 40) #[true, true, true, true, true, true, true, false, false, false] rfl rfl (one_of HT_.out (by kernel_rfl)) (by decide) (fun K hK => ?_)
      refine goes_ Try.func105 (by kernel_rfl) rfl #[.agg #[.int .i64 (Int.tmod (wrap64 ((wrap64 ((wrap64 (7 * a0_2)) + a0_0)) + a1_0)) 7), .int .i64 0, .int .i64 (wrap64 (Int.tdiv (wrap64 ((wrap64 ((wrap64 (7 * a0_2)) + a0_0)) + a1_0)) 7))]] (by rfl) rfl rfl (by (try simp only [List.map_toArray, List.map_cons, List.map_nil]); first | done | rfl | (simp only [List.length_drop, List.length_take]; rfl)) ?_
      with_reducible refine (impl_Note_pitch.calls (Int.tmod (wrap64 ((wrap64 ((wrap64 (7 * a0_2)) + a0_0)) + a1_0)) 7) 0 (wrap64 (Int.tdiv (wrap64 ((wrap64 ((wrap64 (7 * a0_2)) + a0_0)) + a1_0)) 7)) t1480 _ A33.out).mono ?_
      rintro e w49 ⟨rfl, hb⟩
      refine ⟨_, rfl, ?_⟩
      have n0_ := Aside0.mk (blk_below (g := gb1473) (o := .cells #[.int .i64 a0_0, .int .i64 a0_1, .int .i64 a0_2] 64 (0, 0)) (by (with_reducible repeat (first | refine blk_drewN ?_ _ | refine blk_drew ?_ | refine blk_alloc ?_ _)); exact BK1473.out) hb)
      have n1_ := Aside0.mk (blk_below (g := gb1474) (o := .cells #[.int .i64 a1_0, .int .i64 a1_1] 88 (0, 0)) (by (with_reducible repeat (first | refine blk_drewN ?_ _ | refine blk_drew ?_ | refine blk_alloc ?_ _)); exact BK1474.out) hb)
      have n2_ := Aside0.mk (blk_below (g := gb1475) (o := .cells #[.int .i64 0, .int .i64 0, .int .i64 0] 64 (0, 0)) (by (with_reducible repeat (first | refine blk_drewN ?_ _ | refine blk_drew ?_ | refine blk_alloc ?_ _)); exact BK1475.out) hb)
      have n3_ := Aside0.mk (blk_below (g := gb1478) (o := .cells #[.int .i64 (Int.tmod (wrap64 ((wrap64 ((wrap64 (7 * a0_2)) + a0_0)) + a1_0)) 7), .int .i64 0, .int .i64 (wrap64 (Int.tdiv (wrap64 ((wrap64 ((wrap64 (7 * a0_2)) + a0_0)) + a1_0)) 7))] 64 (0, 0)) (by (with_reducible repeat (first | refine blk_drewN ?_ _ | refine blk_drew ?_ | refine blk_alloc ?_ _)); exact BK1478.out) hb)
      have n4_ := Aside0.mk (below_step (by repeat (first | (with_reducible first | exact HB.out | apply below_alloc | apply pw_below_drewN | apply below_drew1 | refine below_set ?_ GE1473.out | refine below_set ?_ GE1474.out | refine below_set ?_ GE1475.out | refine below_set ?_ GE1478.out) | exact HB.out)) hb)
      clear BK1473
      clear BK1474
      clear BK1475
      clear BK1478
      clear HB
      have BK1473 := n0_
      have BK1474 := n1_
      have BK1475 := n2_
      have BK1478 := n3_
      have HB := n4_
      clear n0_ n1_ n2_ n3_ n4_
      (try clear hb)
      (try clear hb2)
      (try clear hk)
      (try clear hi)
      refine hK.out _ _ ⟨(blk_cell BK1473.out 0).trans rfl, (blk_cell BK1473.out 1).trans rfl, (blk_cell BK1473.out 2).trans rfl, (blk_cell BK1474.out 0).trans rfl, (blk_cell BK1474.out 1).trans rfl, (blk_cell BK1478.out 0).trans rfl, (blk_cell BK1478.out 1).trans rfl, (blk_cell BK1478.out 2).trans rfl⟩ (fun hHeld => ?_)
      clear hK K
      refine norm_ (a' := ?_) ?_ ?_
      rotate_left
      ·
       show Act.put _ (some 40) _ = _
       simp only [Act.put, List.setIfInBounds_toArray, List.set_cons_zero, List.set_cons_succ, i64_w, i32_w]
       rfl
      refine pure_ (i := 7) (N := some 41) (v := ?_) (a' := ?_) #[true, true, true, true, true, true, true, true, false, false] rfl rfl (any_of HT_.out (by kernel_rfl)) (fun _ _ _ h => h) (Or.inl ⟨by rfl, ?_⟩) ?_ ?_
      rotate_left
      ·
       intro w'
       go_simp
       with_reducible rfl
      rotate_left
      ·
       simp only [Act.put, List.setIfInBounds_toArray, List.set_cons_zero, List.set_cons_succ, i64_w, i32_w]
       rfl
      refine pure_ (i := 8) (N := some 42) (v := ?_) (a' := ?_) #[true, true, true, true, true, true, true, true, true, false] rfl rfl (any_of HT_.out (by kernel_rfl)) (fun _ _ _ h => h) (Or.inl ⟨by rfl, ?_⟩) ?_ ?_
      rotate_left
      ·
       intro w'
       go_simp
       with_reducible rfl
      rotate_left
      ·
       simp only [Act.put, List.setIfInBounds_toArray, List.set_cons_zero, List.set_cons_succ, i64_w, i32_w]
       rfl
      refine last_ (i := 9) (N := none) #[true, true, true, true, true, true, true, true, true, true] rfl rfl (one_of HT_.out (by kernel_rfl)) (by decide) (fun K hK => ?_)
      have hs50 : w49.cell? ⟨gb1478, 1, none⟩ = some (.int .i64 0) := (blk_cell BK1478.out 1).trans rfl
      have hfs50 := blk_frozen BK1478.out 1
      have hns50_0 := NB1473_1478.out
      have hns50_1 := NB1474_1478.out
      have hns50_2 := NB1475_1478.out
      have hms50_0 := NB1478_1473.out
      have hms50_1 := NB1478_1474.out
      have hms50_2 := NB1478_1475.out
      refine skip_ (w1 := ?_) (by rfl) rfl ?_ ?_
      rotate_left
      ·
       go_simp
       rfl
      refine hK.out _ _ ?_
      clear hK K
      refine done_ (done_of HT_.out (by kernel_rfl)) ?_
      have hcz51_0 : w49.cell? ⟨gb1478, 0, none⟩ = some (.int .i64 (Int.tmod (wrap64 ((wrap64 ((wrap64 (7 * a0_2)) + a0_0)) + a1_0)) 7)) := (blk_cell BK1478.out 0).trans rfl
      have hcz51_1 : w49.cell? ⟨gb1478, 1, none⟩ = some (.int .i64 0) := (blk_cell BK1478.out 1).trans rfl
      have hcz51_2 : w49.cell? ⟨gb1478, 2, none⟩ = some (.int .i64 (wrap64 (Int.tdiv (wrap64 ((wrap64 ((wrap64 (7 * a0_2)) + a0_0)) + a1_0)) 7))) := (blk_cell BK1478.out 2).trans rfl
      have hfz51_0 := blk_frozen BK1478.out 0
      have hfz51_1 := blk_frozen BK1478.out 1
      have hfz51_2 := blk_frozen BK1478.out 2
      try go_wp2_with (first | ((with_reducible refine gate_callee (f := 129) rfl ?_); refine goesL_ (some 44) rfl rfl Try.func129 (by kernel_rfl) rfl #[.agg #[.int .i64 (Int.tmod (wrap64 ((wrap64 ((wrap64 (7 * a0_2)) + a0_0)) + a1_0)) 7), .int .i64 (wrap64 ((wrap64 (t1479 + a1_1)) - t1480)), .int .i64 (wrap64 (Int.tdiv (wrap64 ((wrap64 ((wrap64 (7 * a0_2)) + a0_0)) + a1_0)) 7))]] rfl (by (try simp only [List.map_toArray, List.map_cons, List.map_nil]); first | done | rfl | (simp only [List.length_drop, List.length_take]; rfl)) ?_; (with_reducible refine (impl_IsNote.calls (Int.tmod (wrap64 ((wrap64 ((wrap64 (7 * a0_2)) + a0_0)) + a1_0)) 7) (wrap64 ((wrap64 (t1479 + a1_1)) - t1480)) (wrap64 (Int.tdiv (wrap64 ((wrap64 ((wrap64 (7 * a0_2)) + a0_0)) + a1_0)) 7)) true _ A34.out).mono ?_); rintro e w52 ⟨rfl, hb⟩; refine ⟨_, rfl, ?_⟩; have n0_ := Aside0.mk (blk_below (g := gb1473) (o := .cells #[.int .i64 a0_0, .int .i64 a0_1, .int .i64 a0_2] 64 (0, 0)) (by (with_reducible repeat (first | refine blk_drewN ?_ _ | refine blk_drew ?_ | refine blk_alloc ?_ _)); refine blk_far ?_ NB1473_1478.out _; (with_reducible repeat (first | refine blk_drewN ?_ _ | refine blk_drew ?_ | refine blk_alloc ?_ _)); exact BK1473.out) hb); have n1_ := Aside0.mk (blk_below (g := gb1474) (o := .cells #[.int .i64 a1_0, .int .i64 a1_1] 88 (0, 0)) (by (with_reducible repeat (first | refine blk_drewN ?_ _ | refine blk_drew ?_ | refine blk_alloc ?_ _)); refine blk_far ?_ NB1474_1478.out _; (with_reducible repeat (first | refine blk_drewN ?_ _ | refine blk_drew ?_ | refine blk_alloc ?_ _)); exact BK1474.out) hb); have n2_ := Aside0.mk (blk_below (g := gb1475) (o := .cells #[.int .i64 0, .int .i64 0, .int .i64 0] 64 (0, 0)) (by (with_reducible repeat (first | refine blk_drewN ?_ _ | refine blk_drew ?_ | refine blk_alloc ?_ _)); refine blk_far ?_ NB1475_1478.out _; (with_reducible repeat (first | refine blk_drewN ?_ _ | refine blk_drew ?_ | refine blk_alloc ?_ _)); exact BK1475.out) hb); have n3_ := Aside0.mk (blk_below (g := gb1478) (o := .cells #[.int .i64 (Int.tmod (wrap64 ((wrap64 ((wrap64 (7 * a0_2)) + a0_0)) + a1_0)) 7), .int .i64 (wrap64 ((wrap64 (t1479 + a1_1)) - t1480)), .int .i64 (wrap64 (Int.tdiv (wrap64 ((wrap64 ((wrap64 (7 * a0_2)) + a0_0)) + a1_0)) 7))] 64 (0, 0)) (by (with_reducible repeat (first | refine blk_drewN ?_ _ | refine blk_drew ?_ | refine blk_alloc ?_ _)); refine blk_put (cs := #[.int .i64 (Int.tmod (wrap64 ((wrap64 ((wrap64 (7 * a0_2)) + a0_0)) + a1_0)) 7), .int .i64 0, .int .i64 (wrap64 (Int.tdiv (wrap64 ((wrap64 ((wrap64 (7 * a0_2)) + a0_0)) + a1_0)) 7))]) ?_ 1 _ rfl; (with_reducible repeat (first | refine blk_drewN ?_ _ | refine blk_drew ?_ | refine blk_alloc ?_ _)); exact BK1478.out) hb); have n4_ := Aside0.mk (below_step (by repeat (first | (with_reducible first | exact HB.out | apply below_alloc | apply pw_below_drewN | apply below_drew1 | refine below_set ?_ GE1473.out | refine below_set ?_ GE1474.out | refine below_set ?_ GE1475.out | refine below_set ?_ GE1478.out) | exact HB.out)) hb); clear BK1473; clear BK1474; clear BK1475; clear BK1478; clear HB; have BK1473 := n0_; have BK1474 := n1_; have BK1475 := n2_; have BK1478 := n3_; have HB := n4_; clear n0_ n1_ n2_ n3_ n4_; (try clear hb); (try clear hb2); (try clear hk); (try clear hi); have hcz53_0 : w52.cell? ⟨gb1478, 0, none⟩ = some (.int .i64 (Int.tmod (wrap64 ((wrap64 ((wrap64 (7 * a0_2)) + a0_0)) + a1_0)) 7)) := (blk_cell BK1478.out 0).trans rfl; have hcz53_1 : w52.cell? ⟨gb1478, 1, none⟩ = some (.int .i64 (wrap64 ((wrap64 (t1479 + a1_1)) - t1480))) := (blk_cell BK1478.out 1).trans rfl; have hcz53_2 : w52.cell? ⟨gb1478, 2, none⟩ = some (.int .i64 (wrap64 (Int.tdiv (wrap64 ((wrap64 ((wrap64 (7 * a0_2)) + a0_0)) + a1_0)) 7))) := (blk_cell BK1478.out 2).trans rfl; have hfz53_0 := blk_frozen BK1478.out 0; have hfz53_1 := blk_frozen BK1478.out 1; have hfz53_2 := blk_frozen BK1478.out 2; have hcz54_0 : w52.cell? ⟨gb1475, 0, none⟩ = some (.int .i64 0) := (blk_cell BK1475.out 0).trans rfl; have hcz54_1 : w52.cell? ⟨gb1475, 1, none⟩ = some (.int .i64 0) := (blk_cell BK1475.out 1).trans rfl; have hcz54_2 : w52.cell? ⟨gb1475, 2, none⟩ = some (.int .i64 0) := (blk_cell BK1475.out 2).trans rfl; have hfz54_0 := blk_frozen BK1475.out 0; have hfz54_1 := blk_frozen BK1475.out 1; have hfz54_2 := blk_frozen BK1475.out 2))
      refine bodyPost_ret (results_ct rfl _ _ gb1475 64 #[.int .i64 (Int.tmod (wrap64 ((wrap64 ((wrap64 (7 * a0_2)) + a0_0)) + a1_0)) 7), .int .i64 (wrap64 ((wrap64 (t1479 + a1_1)) - t1480)), .int .i64 (wrap64 (Int.tdiv (wrap64 ((wrap64 ((wrap64 (7 * a0_2)) + a0_0)) + a1_0)) 7))] (0, 0) _ rfl (by (with_reducible repeat (first | refine blk_drewN ?_ _ | refine blk_drew ?_ | refine blk_alloc ?_ _)); refine blk_put (cs := #[.int .i64 (Int.tmod (wrap64 ((wrap64 ((wrap64 (7 * a0_2)) + a0_0)) + a1_0)) 7), .int .i64 (wrap64 ((wrap64 (t1479 + a1_1)) - t1480)), .int .i64 0]) ?_ 2 _ rfl; (with_reducible repeat (first | refine blk_drewN ?_ _ | refine blk_drew ?_ | refine blk_alloc ?_ _)); refine blk_put (cs := #[.int .i64 (Int.tmod (wrap64 ((wrap64 ((wrap64 (7 * a0_2)) + a0_0)) + a1_0)) 7), .int .i64 0, .int .i64 0]) ?_ 1 _ rfl; (with_reducible repeat (first | refine blk_drewN ?_ _ | refine blk_drew ?_ | refine blk_alloc ?_ _)); refine blk_put (cs := #[.int .i64 0, .int .i64 0, .int .i64 0]) ?_ 0 _ rfl; (with_reducible repeat (first | refine blk_drewN ?_ _ | refine blk_drew ?_ | refine blk_alloc ?_ _)); exact BK1475.out) Try.underlying64 rfl (by kernel_rfl)) rfl ?_
      exact ⟨by first | rfl | (simp [errW_none, errW_some] <;> rfl) | (simp [*, errW_none, errW_some] <;> rfl), by repeat (first | (with_reducible first | exact HB.out | apply below_alloc | apply pw_below_drewN | apply below_drew1 | refine below_set ?_ GE1473.out | refine below_set ?_ GE1474.out | refine below_set ?_ GE1475.out | refine below_set ?_ GE1478.out) | exact HB.out)⟩
     ·
      replace c35 := Bool.eq_false_iff.mpr c35
      subst c35
      rw [if_neg (show ¬ (false = true) by decide)] at H
      simp only [Option.some.injEq, Prod.mk.injEq] at H
      obtain ⟨rfl, rfl, rfl, rfl⟩ := H
      have hnb55 := NB1473_1474.out
      have hnc55 := NB1474_1473.out
      have hnb56 := NB1473_1475.out
      have hnc56 := NB1475_1473.out
      have hcz57_0 : wc.cell? ⟨gb1473, 0, none⟩ = some (.int .i64 a0_0) := (blk_cell BK1473.out 0).trans rfl
      have hcz57_1 : wc.cell? ⟨gb1473, 1, none⟩ = some (.int .i64 a0_1) := (blk_cell BK1473.out 1).trans rfl
      have hcz57_2 : wc.cell? ⟨gb1473, 2, none⟩ = some (.int .i64 a0_2) := (blk_cell BK1473.out 2).trans rfl
      have hfz57_0 := blk_frozen BK1473.out 0
      have hfz57_1 := blk_frozen BK1473.out 1
      have hfz57_2 := blk_frozen BK1473.out 2
      have hnb58 := NB1474_1475.out
      have hnc58 := NB1475_1474.out
      have hcz59_0 : wc.cell? ⟨gb1474, 0, none⟩ = some (.int .i64 a1_0) := (blk_cell BK1474.out 0).trans rfl
      have hcz59_1 : wc.cell? ⟨gb1474, 1, none⟩ = some (.int .i64 a1_1) := (blk_cell BK1474.out 1).trans rfl
      have hfz59_0 := blk_frozen BK1474.out 0
      have hfz59_1 := blk_frozen BK1474.out 1
      try go_wp2_with (first | ((with_reducible refine gate_dst (N := 7) rfl ?_); refine box_event ?hg (N := 7) ?hd (cs := #[.int .i64 0, .int .i64 0, .int .i64 0]) (t := 64) ?hr ?_; (case hd => rfl); (case hg => rfl); (case hr => first | (go_simp; done) | (go_simp; rfl)); intro gb1478 hg w60 hbox hb; have n0_ := Aside0.mk (blk_below (g := gb1473) (o := .cells #[.int .i64 a0_0, .int .i64 a0_1, .int .i64 a0_2] 64 (0, 0)) (by (with_reducible repeat (first | refine blk_drewN ?_ _ | refine blk_drew ?_ | refine blk_alloc ?_ _)); exact BK1473.out) hb); have n1_ := Aside0.mk (blk_below (g := gb1474) (o := .cells #[.int .i64 a1_0, .int .i64 a1_1] 88 (0, 0)) (by (with_reducible repeat (first | refine blk_drewN ?_ _ | refine blk_drew ?_ | refine blk_alloc ?_ _)); exact BK1474.out) hb); have n2_ := Aside0.mk (blk_below (g := gb1475) (o := .cells #[.int .i64 0, .int .i64 0, .int .i64 0] 64 (0, 0)) (by (with_reducible repeat (first | refine blk_drewN ?_ _ | refine blk_drew ?_ | refine blk_alloc ?_ _)); exact BK1475.out) hb); have n3_ := Aside0.mk (below_step (by repeat (first | (with_reducible first | exact HB.out | apply below_alloc | apply pw_below_drewN | apply below_drew1 | refine below_set ?_ GE1473.out | refine below_set ?_ GE1474.out | refine below_set ?_ GE1475.out) | exact HB.out)) hb); have n4_ := Aside0.mk (hbox); have n5_ := Aside0.mk ((by rw [hg]; exact (below_size (by repeat (first | (with_reducible first | exact HB.out | apply below_alloc | apply pw_below_drewN | apply below_drew1 | refine below_set ?_ GE1473.out | refine below_set ?_ GE1474.out | refine below_set ?_ GE1475.out) | exact HB.out))) : w.heap.size ≤ gb1478)); have n6_ := Aside0.mk ((by rw [hg]; exact (below_size (by repeat (first | (with_reducible first | exact HB.out | apply below_alloc | apply pw_below_drewN | apply below_drew1 | refine below_set ?_ GE1473.out | refine below_set ?_ GE1474.out | refine below_set ?_ GE1475.out) | exact HB.out))) : w.heap.size ≤ gb1478)); have n7_ := Aside0.mk ((by rw [hg]; exact Nat.ne_of_lt (blk_lt (g := gb1473) (o := .cells #[.int .i64 a0_0, .int .i64 a0_1, .int .i64 a0_2] 64 (0, 0)) (by (with_reducible repeat (first | refine blk_drewN ?_ _ | refine blk_drew ?_ | refine blk_alloc ?_ _)); exact BK1473.out)) : gb1473 ≠ gb1478)); have n8_ := Aside0.mk ((by rw [hg]; exact Nat.ne_of_gt (blk_lt (g := gb1473) (o := .cells #[.int .i64 a0_0, .int .i64 a0_1, .int .i64 a0_2] 64 (0, 0)) (by (with_reducible repeat (first | refine blk_drewN ?_ _ | refine blk_drew ?_ | refine blk_alloc ?_ _)); exact BK1473.out)) : gb1478 ≠ gb1473)); have n9_ := Aside0.mk ((by rw [hg]; exact Nat.ne_of_lt (blk_lt (g := gb1474) (o := .cells #[.int .i64 a1_0, .int .i64 a1_1] 88 (0, 0)) (by (with_reducible repeat (first | refine blk_drewN ?_ _ | refine blk_drew ?_ | refine blk_alloc ?_ _)); exact BK1474.out)) : gb1474 ≠ gb1478)); have n10_ := Aside0.mk ((by rw [hg]; exact Nat.ne_of_gt (blk_lt (g := gb1474) (o := .cells #[.int .i64 a1_0, .int .i64 a1_1] 88 (0, 0)) (by (with_reducible repeat (first | refine blk_drewN ?_ _ | refine blk_drew ?_ | refine blk_alloc ?_ _)); exact BK1474.out)) : gb1478 ≠ gb1474)); have n11_ := Aside0.mk ((by rw [hg]; exact Nat.ne_of_lt (blk_lt (g := gb1475) (o := .cells #[.int .i64 0, .int .i64 0, .int .i64 0] 64 (0, 0)) (by (with_reducible repeat (first | refine blk_drewN ?_ _ | refine blk_drew ?_ | refine blk_alloc ?_ _)); exact BK1475.out)) : gb1475 ≠ gb1478)); have n12_ := Aside0.mk ((by rw [hg]; exact Nat.ne_of_gt (blk_lt (g := gb1475) (o := .cells #[.int .i64 0, .int .i64 0, .int .i64 0] 64 (0, 0)) (by (with_reducible repeat (first | refine blk_drewN ?_ _ | refine blk_drew ?_ | refine blk_alloc ?_ _)); exact BK1475.out)) : gb1478 ≠ gb1475)); clear BK1473; clear BK1474; clear BK1475; clear HB; have BK1473 := n0_; have BK1474 := n1_; have BK1475 := n2_; have HB := n3_; have BK1478 := n4_; have GW1478 := n5_; have GE1478 := n6_; have NB1473_1478 := n7_; have NB1478_1473 := n8_; have NB1474_1478 := n9_; have NB1478_1474 := n10_; have NB1475_1478 := n11_; have NB1478_1475 := n12_; clear n0_ n1_ n2_ n3_ n4_ n5_ n6_ n7_ n8_ n9_ n10_ n11_ n12_; clear hb hbox hg; have hnb61 := NB1478_1473.out; have hnc61 := NB1473_1478.out; have hnb62 := NB1478_1474.out; have hnc62 := NB1474_1478.out; have hnb63 := NB1478_1475.out; have hnc63 := NB1475_1478.out; have hcz64_0 : w60.cell? ⟨gb1478, 0, none⟩ = some (.int .i64 0) := (blk_cell BK1478.out 0).trans rfl; have hcz64_1 : w60.cell? ⟨gb1478, 1, none⟩ = some (.int .i64 0) := (blk_cell BK1478.out 1).trans rfl; have hcz64_2 : w60.cell? ⟨gb1478, 2, none⟩ = some (.int .i64 0) := (blk_cell BK1478.out 2).trans rfl; have hfz64_0 := blk_frozen BK1478.out 0; have hfz64_1 := blk_frozen BK1478.out 1; have hfz64_2 := blk_frozen BK1478.out 2))
      have n0_ : Aside0 ((((w60.setCell ⟨gb1478, 0, none⟩ (.int .i64 (Int.tmod (wrap64 ((wrap64 ((wrap64 (7 * a0_2)) + a0_0)) + a1_0)) 7))).setCell ⟨gb1478, 1, none⟩ (.int .i64 0)).setCell ⟨gb1478, 2, none⟩ (.int .i64 (wrap64 (Int.tdiv (wrap64 ((wrap64 ((wrap64 (7 * a0_2)) + a0_0)) + a1_0)) 7)))).heap[gb1473]? = some (.cells #[.int .i64 a0_0, .int .i64 a0_1, .int .i64 a0_2] 64 (0, 0))) := ⟨by (with_reducible repeat (first | refine blk_drewN ?_ _ | refine blk_drew ?_ | refine blk_alloc ?_ _)); refine blk_far ?_ NB1473_1478.out _; (with_reducible repeat (first | refine blk_drewN ?_ _ | refine blk_drew ?_ | refine blk_alloc ?_ _)); refine blk_far ?_ NB1473_1478.out _; (with_reducible repeat (first | refine blk_drewN ?_ _ | refine blk_drew ?_ | refine blk_alloc ?_ _)); refine blk_far ?_ NB1473_1478.out _; (with_reducible repeat (first | refine blk_drewN ?_ _ | refine blk_drew ?_ | refine blk_alloc ?_ _)); exact BK1473.out⟩
      have n1_ : Aside0 ((((w60.setCell ⟨gb1478, 0, none⟩ (.int .i64 (Int.tmod (wrap64 ((wrap64 ((wrap64 (7 * a0_2)) + a0_0)) + a1_0)) 7))).setCell ⟨gb1478, 1, none⟩ (.int .i64 0)).setCell ⟨gb1478, 2, none⟩ (.int .i64 (wrap64 (Int.tdiv (wrap64 ((wrap64 ((wrap64 (7 * a0_2)) + a0_0)) + a1_0)) 7)))).heap[gb1474]? = some (.cells #[.int .i64 a1_0, .int .i64 a1_1] 88 (0, 0))) := ⟨by (with_reducible repeat (first | refine blk_drewN ?_ _ | refine blk_drew ?_ | refine blk_alloc ?_ _)); refine blk_far ?_ NB1474_1478.out _; (with_reducible repeat (first | refine blk_drewN ?_ _ | refine blk_drew ?_ | refine blk_alloc ?_ _)); refine blk_far ?_ NB1474_1478.out _; (with_reducible repeat (first | refine blk_drewN ?_ _ | refine blk_drew ?_ | refine blk_alloc ?_ _)); refine blk_far ?_ NB1474_1478.out _; (with_reducible repeat (first | refine blk_drewN ?_ _ | refine blk_drew ?_ | refine blk_alloc ?_ _)); exact BK1474.out⟩
      have n2_ : Aside0 ((((w60.setCell ⟨gb1478, 0, none⟩ (.int .i64 (Int.tmod (wrap64 ((wrap64 ((wrap64 (7 * a0_2)) + a0_0)) + a1_0)) 7))).setCell ⟨gb1478, 1, none⟩ (.int .i64 0)).setCell ⟨gb1478, 2, none⟩ (.int .i64 (wrap64 (Int.tdiv (wrap64 ((wrap64 ((wrap64 (7 * a0_2)) + a0_0)) + a1_0)) 7)))).heap[gb1475]? = some (.cells #[.int .i64 0, .int .i64 0, .int .i64 0] 64 (0, 0))) := ⟨by (with_reducible repeat (first | refine blk_drewN ?_ _ | refine blk_drew ?_ | refine blk_alloc ?_ _)); refine blk_far ?_ NB1475_1478.out _; (with_reducible repeat (first | refine blk_drewN ?_ _ | refine blk_drew ?_ | refine blk_alloc ?_ _)); refine blk_far ?_ NB1475_1478.out _; (with_reducible repeat (first | refine blk_drewN ?_ _ | refine blk_drew ?_ | refine blk_alloc ?_ _)); refine blk_far ?_ NB1475_1478.out _; (with_reducible repeat (first | refine blk_drewN ?_ _ | refine blk_drew ?_ | refine blk_alloc ?_ _)); exact BK1475.out⟩
      have n3_ : Aside0 ((((w60.setCell ⟨gb1478, 0, none⟩ (.int .i64 (Int.tmod (wrap64 ((wrap64 ((wrap64 (7 * a0_2)) + a0_0)) + a1_0)) 7))).setCell ⟨gb1478, 1, none⟩ (.int .i64 0)).setCell ⟨gb1478, 2, none⟩ (.int .i64 (wrap64 (Int.tdiv (wrap64 ((wrap64 ((wrap64 (7 * a0_2)) + a0_0)) + a1_0)) 7)))).heap[gb1478]? = some (.cells #[.int .i64 (Int.tmod (wrap64 ((wrap64 ((wrap64 (7 * a0_2)) + a0_0)) + a1_0)) 7), .int .i64 0, .int .i64 (wrap64 (Int.tdiv (wrap64 ((wrap64 ((wrap64 (7 * a0_2)) + a0_0)) + a1_0)) 7))] 64 (0, 0))) := ⟨by (with_reducible repeat (first | refine blk_drewN ?_ _ | refine blk_drew ?_ | refine blk_alloc ?_ _)); refine blk_put (cs := #[.int .i64 (Int.tmod (wrap64 ((wrap64 ((wrap64 (7 * a0_2)) + a0_0)) + a1_0)) 7), .int .i64 0, .int .i64 0]) ?_ 2 _ rfl; (with_reducible repeat (first | refine blk_drewN ?_ _ | refine blk_drew ?_ | refine blk_alloc ?_ _)); refine blk_put (cs := #[.int .i64 (Int.tmod (wrap64 ((wrap64 ((wrap64 (7 * a0_2)) + a0_0)) + a1_0)) 7), .int .i64 0, .int .i64 0]) ?_ 1 _ rfl; (with_reducible repeat (first | refine blk_drewN ?_ _ | refine blk_drew ?_ | refine blk_alloc ?_ _)); refine blk_put (cs := #[.int .i64 0, .int .i64 0, .int .i64 0]) ?_ 0 _ rfl; (with_reducible repeat (first | refine blk_drewN ?_ _ | refine blk_drew ?_ | refine blk_alloc ?_ _)); exact BK1478.out⟩
      have n4_ : Aside0 (Below w.heap.size w (((w60.setCell ⟨gb1478, 0, none⟩ (.int .i64 (Int.tmod (wrap64 ((wrap64 ((wrap64 (7 * a0_2)) + a0_0)) + a1_0)) 7))).setCell ⟨gb1478, 1, none⟩ (.int .i64 0)).setCell ⟨gb1478, 2, none⟩ (.int .i64 (wrap64 (Int.tdiv (wrap64 ((wrap64 ((wrap64 (7 * a0_2)) + a0_0)) + a1_0)) 7))))) := ⟨by repeat (first | (with_reducible first | exact HB.out | apply below_alloc | apply pw_below_drewN | apply below_drew1 | refine below_set ?_ GE1473.out | refine below_set ?_ GE1474.out | refine below_set ?_ GE1475.out | refine below_set ?_ GE1478.out) | exact HB.out)⟩
      (try clear BK1473)
      (try clear BK1474)
      (try clear BK1475)
      (try clear BK1478)
      (try clear HB)
      generalize (((w60.setCell ⟨gb1478, 0, none⟩ (.int .i64 (Int.tmod (wrap64 ((wrap64 ((wrap64 (7 * a0_2)) + a0_0)) + a1_0)) 7))).setCell ⟨gb1478, 1, none⟩ (.int .i64 0)).setCell ⟨gb1478, 2, none⟩ (.int .i64 (wrap64 (Int.tdiv (wrap64 ((wrap64 ((wrap64 (7 * a0_2)) + a0_0)) + a1_0)) 7)))) = w65 at n0_ n1_ n2_ n3_ n4_ ⊢
      have BK1473 := n0_
      have BK1474 := n1_
      have BK1475 := n2_
      have BK1478 := n3_
      have HB := n4_
      clear n0_ n1_ n2_ n3_ n4_
      have n0_ := Aside0.mk (blk_drew BK1473.out)
      have n1_ := Aside0.mk (blk_drew BK1474.out)
      have n2_ := Aside0.mk (blk_drew BK1475.out)
      have n3_ := Aside0.mk (blk_drew BK1478.out)
      have n4_ := Aside0.mk (below_drew1 HB.out)
      clear BK1473
      clear BK1474
      clear BK1475
      clear BK1478
      clear HB
      have BK1473 := n0_
      have BK1474 := n1_
      have BK1475 := n2_
      have BK1478 := n3_
      have HB := n4_
      clear n0_ n1_ n2_ n3_ n4_
      refine start_ (n := 10) (S := fun w' => w'.cell? ⟨gb1473, 0, none⟩ = some (.int .i64 a0_0) ∧ w'.cell? ⟨gb1473, 1, none⟩ = some (.int .i64 a0_1) ∧ w'.cell? ⟨gb1473, 2, none⟩ = some (.int .i64 a0_2) ∧ w'.cell? ⟨gb1474, 0, none⟩ = some (.int .i64 a1_0) ∧ w'.cell? ⟨gb1474, 1, none⟩ = some (.int .i64 a1_1) ∧ w'.cell? ⟨gb1478, 0, none⟩ = some (.int .i64 (Int.tmod (wrap64 ((wrap64 ((wrap64 (7 * a0_2)) + a0_0)) + a1_0)) 7)) ∧ w'.cell? ⟨gb1478, 1, none⟩ = some (.int .i64 0) ∧ w'.cell? ⟨gb1478, 2, none⟩ = some (.int .i64 (wrap64 (Int.tdiv (wrap64 ((wrap64 ((wrap64 (7 * a0_2)) + a0_0)) + a1_0)) 7)))) (ds := [9]) #[false, false, false, false, false, false, false, false, false, false] (by kernel_rfl) rfl rfl ⟨(blk_cell BK1473.out 0).trans rfl, (blk_cell BK1473.out 1).trans rfl, (blk_cell BK1473.out 2).trans rfl, (blk_cell BK1474.out 0).trans rfl, (blk_cell BK1474.out 1).trans rfl, (blk_cell BK1478.out 0).trans rfl, (blk_cell BK1478.out 1).trans rfl, (blk_cell BK1478.out 2).trans rfl⟩ (fun hHeld => ?_); refine with_tabW impl_MoveNote.tab7 impl_MoveNote.bits7 (fun HT_ HW_ => ?_)
      generalize w65.drew = w66 at BK1473 BK1474 BK1475 BK1478 HB hHeld ⊢
      refine pure_ (i := 2) (N := some 36) (v := ?_) (a' := ?_) #[false, false, true, false, false, false, false, false, false, false] rfl rfl (any_of HT_.out (by kernel_rfl)) (fun _ _ _ h => h) (Or.inl ⟨by rfl, ?_⟩) ?_ ?_
      rotate_left
      ·
       intro w'
       go_simp
       with_reducible rfl
      rotate_left
      ·
       simp only [Act.put, List.setIfInBounds_toArray, List.set_cons_zero, List.set_cons_succ, i64_w, i32_w]
       rfl
      refine take_ (i := 0) (N := some 34) (v := ?_) (a' := ?_) #[true, false, true, false, false, false, false, false, false, false] rfl rfl (take_ofW HT_.out HW_.out (by kernel_rfl)) (fun _ _ _ h => h) (Or.inl ⟨by rfl, ?_⟩) hHeld ?_ ?_
      rotate_left
      ·
       rintro w' ⟨s0, s1, s2, s3, s4, s5, s6, s7⟩
       go_simp
       with_reducible rfl
      rotate_left
      ·
       simp only [Act.put, List.setIfInBounds_toArray, List.set_cons_zero, List.set_cons_succ, i64_w, i32_w]
       rfl
      refine take_ (i := 3) (N := some 37) (v := ?_) (a' := ?_) #[true, false, true, true, false, false, false, false, false, false] rfl rfl (take_ofW HT_.out HW_.out (by kernel_rfl)) (fun _ _ _ h => h) (Or.inl ⟨by rfl, ?_⟩) hHeld ?_ ?_
      rotate_left
      ·
       rintro w' ⟨s0, s1, s2, s3, s4, s5, s6, s7⟩
       go_simp
       with_reducible rfl
      rotate_left
      ·
       simp only [Act.put, List.setIfInBounds_toArray, List.set_cons_zero, List.set_cons_succ, i64_w, i32_w]
       rfl
      refine take_ (i := 5) (N := some 39) (v := ?_) (a' := ?_) #[true, false, true, true, false, true, false, false, false, false] rfl rfl (take_ofW HT_.out HW_.out (by kernel_rfl)) (fun _ _ _ h => h) (Or.inl ⟨by rfl, ?_⟩) hHeld ?_ ?_
      rotate_left
      ·
       rintro w' ⟨s0, s1, s2, s3, s4, s5, s6, s7⟩
       go_simp
       with_reducible rfl
      rotate_left
      ·
       simp only [Act.put, List.setIfInBounds_toArray, List.set_cons_zero, List.set_cons_succ, i64_w, i32_w]
       rfl
      refine one_ (i := 1) (N := some 35) #[true, true, true, true, false, true, false, false, false, false] rfl rfl (one_of HT_.out (by kernel_rfl)) (by decide) (fun K hK => ?_)
      refine goes_ Try.func105 (by kernel_rfl) rfl #[.agg #[.int .i64 a0_0, .int .i64 a0_1, .int .i64 a0_2]] (by rfl) rfl rfl (by (try simp only [List.map_toArray, List.map_cons, List.map_nil]); first | done | rfl | (simp only [List.length_drop, List.length_take]; rfl)) ?_
      with_reducible refine (impl_Note_pitch.calls a0_0 a0_1 a0_2 t1479 _ A32.out).mono ?_
      rintro e w67 ⟨rfl, hb⟩
      refine ⟨_, rfl, ?_⟩
      have n0_ := Aside0.mk (blk_below (g := gb1473) (o := .cells #[.int .i64 a0_0, .int .i64 a0_1, .int .i64 a0_2] 64 (0, 0)) (by (with_reducible repeat (first | refine blk_drewN ?_ _ | refine blk_drew ?_ | refine blk_alloc ?_ _)); exact BK1473.out) hb)
      have n1_ := Aside0.mk (blk_below (g := gb1474) (o := .cells #[.int .i64 a1_0, .int .i64 a1_1] 88 (0, 0)) (by (with_reducible repeat (first | refine blk_drewN ?_ _ | refine blk_drew ?_ | refine blk_alloc ?_ _)); exact BK1474.out) hb)
      have n2_ := Aside0.mk (blk_below (g := gb1475) (o := .cells #[.int .i64 0, .int .i64 0, .int .i64 0] 64 (0, 0)) (by (with_reducible repeat (first | refine blk_drewN ?_ _ | refine blk_drew ?_ | refine blk_alloc ?_ _)); exact BK1475.out) hb)
      have n3_ := Aside0.mk (blk_below (g := gb1478) (o := .cells #[.int .i64 (Int.tmod (wrap64 ((wrap64 ((wrap64 (7 * a0_2)) + a0_0)) + a1_0)) 7), .int .i64 0, .int .i64 (wrap64 (Int.tdiv (wrap64 ((wrap64 ((wrap64 (7 * a0_2)) + a0_0)) + a1_0)) 7))] 64 (0, 0)) (by (with_reducible repeat (first | refine blk_drewN ?_ _ | refine blk_drew ?_ | refine blk_alloc ?_ _)); exact BK1478.out) hb)
      have n4_ := Aside0.mk (below_step (by repeat (first | (with_reducible first | exact HB.out | apply below_alloc | apply pw_below_drewN | apply below_drew1 | refine below_set ?_ GE1473.out | refine below_set ?_ GE1474.out | refine below_set ?_ GE1475.out | refine below_set ?_ GE1478.out) | exact HB.out)) hb)
      clear BK1473
      clear BK1474
      clear BK1475
      clear BK1478
      clear HB
      have BK1473 := n0_
      have BK1474 := n1_
      have BK1475 := n2_
      have BK1478 := n3_
      have HB := n4_
      clear n0_ n1_ n2_ n3_ n4_
      (try clear hb)
      (try clear hb2)
      (try clear hk)
      (try clear hi)
      refine hK.out _ _ ⟨(blk_cell BK1473.out 0).trans rfl, (blk_cell BK1473.out 1).trans rfl, (blk_cell BK1473.out 2).trans rfl, (blk_cell BK1474.out 0).trans rfl, (blk_cell BK1474.out 1).trans rfl, (blk_cell BK1478.out 0).trans rfl, (blk_cell BK1478.out 1).trans rfl, (blk_cell BK1478.out 2).trans rfl⟩ (fun hHeld => ?_)
      clear hK K
      refine norm_ (a' := ?_) ?_ ?_
      rotate_left
      ·
       show Act.put _ (some 35) _ = _
       simp only [Act.put, List.setIfInBounds_toArray, List.set_cons_zero, List.set_cons_succ, i64_w, i32_w]
       rfl
      refine pure_ (i := 4) (N := some 38) (v := ?_) (a' := ?_) #[true, true, true, true, true, true, false, false, false, false] rfl rfl (any_of HT_.out (by kernel_rfl)) (fun _ _ _ h => h) (Or.inl ⟨by rfl, ?_⟩) ?_ ?_
      rotate_left
      ·
       intro w'
       go_simp
       with_reducible rfl
      rotate_left
      ·
       simp only [Act.put, List.setIfInBounds_toArray, List.set_cons_zero, List.set_cons_succ, i64_w, i32_w]
       rfl
      refine one_ (i := 6) (N := some 40) #[true, true, true, true, true, true, true, false, false, false] rfl rfl (one_of HT_.out (by kernel_rfl)) (by decide) (fun K hK => ?_)
      refine goes_ Try.func105 (by kernel_rfl) rfl #[.agg #[.int .i64 (Int.tmod (wrap64 ((wrap64 ((wrap64 (7 * a0_2)) + a0_0)) + a1_0)) 7), .int .i64 0, .int .i64 (wrap64 (Int.tdiv (wrap64 ((wrap64 ((wrap64 (7 * a0_2)) + a0_0)) + a1_0)) 7))]] (by rfl) rfl rfl (by (try simp only [List.map_toArray, List.map_cons, List.map_nil]); first | done | rfl | (simp only [List.length_drop, List.length_take]; rfl)) ?_
      with_reducible refine (impl_Note_pitch.calls (Int.tmod (wrap64 ((wrap64 ((wrap64 (7 * a0_2)) + a0_0)) + a1_0)) 7) 0 (wrap64 (Int.tdiv (wrap64 ((wrap64 ((wrap64 (7 * a0_2)) + a0_0)) + a1_0)) 7)) t1480 _ A33.out).mono ?_
      rintro e w68 ⟨rfl, hb⟩
      refine ⟨_, rfl, ?_⟩
      have n0_ := Aside0.mk (blk_below (g := gb1473) (o := .cells #[.int .i64 a0_0, .int .i64 a0_1, .int .i64 a0_2] 64 (0, 0)) (by (with_reducible repeat (first | refine blk_drewN ?_ _ | refine blk_drew ?_ | refine blk_alloc ?_ _)); exact BK1473.out) hb)
      have n1_ := Aside0.mk (blk_below (g := gb1474) (o := .cells #[.int .i64 a1_0, .int .i64 a1_1] 88 (0, 0)) (by (with_reducible repeat (first | refine blk_drewN ?_ _ | refine blk_drew ?_ | refine blk_alloc ?_ _)); exact BK1474.out) hb)
      have n2_ := Aside0.mk (blk_below (g := gb1475) (o := .cells #[.int .i64 0, .int .i64 0, .int .i64 0] 64 (0, 0)) (by (with_reducible repeat (first | refine blk_drewN ?_ _ | refine blk_drew ?_ | refine blk_alloc ?_ _)); exact BK1475.out) hb)
      have n3_ := Aside0.mk (blk_below (g := gb1478) (o := .cells #[.int .i64 (Int.tmod (wrap64 ((wrap64 ((wrap64 (7 * a0_2)) + a0_0)) + a1_0)) 7), .int .i64 0, .int .i64 (wrap64 (Int.tdiv (wrap64 ((wrap64 ((wrap64 (7 * a0_2)) + a0_0)) + a1_0)) 7))] 64 (0, 0)) (by (with_reducible repeat (first | refine blk_drewN ?_ _ | refine blk_drew ?_ | refine blk_alloc ?_ _)); exact BK1478.out) hb)
      have n4_ := Aside0.mk (below_step (by repeat (first | (with_reducible first | exact HB.out | apply below_alloc | apply pw_below_drewN | apply below_drew1 | refine below_set ?_ GE1473.out | refine below_set ?_ GE1474.out | refine below_set ?_ GE1475.out | refine below_set ?_ GE1478.out) | exact HB.out)) hb)
      clear BK1473
      clear BK1474
      clear BK1475
      clear BK1478
      clear HB
      have BK1473 := n0_
      have BK1474 := n1_
      have BK1475 := n2_
      have BK1478 := n3_
      have HB := n4_
      clear n0_ n1_ n2_ n3_ n4_
      (try clear hb)
      (try clear hb2)
      (try clear hk)
      (try clear hi)
      refine hK.out _ _ ⟨(blk_cell BK1473.out 0).trans rfl, (blk_cell BK1473.out 1).trans rfl, (blk_cell BK1473.out 2).trans rfl, (blk_cell BK1474.out 0).trans rfl, (blk_cell BK1474.out 1).trans rfl, (blk_cell BK1478.out 0).trans rfl, (blk_cell BK1478.out 1).trans rfl, (blk_cell BK1478.out 2).trans rfl⟩ (fun hHeld => ?_)
      clear hK K
      refine norm_ (a' := ?_) ?_ ?_
      rotate_left
      ·
       show Act.put _ (some 40) _ = _
       simp only [Act.put, List.setIfInBounds_toArray, List.set_cons_zero, List.set_cons_succ, i64_w, i32_w]
       rfl
      refine pure_ (i := 7) (N := some 41) (v := ?_) (a' := ?_) #[true, true, true, true, true, true, true, true, false, false] rfl rfl (any_of HT_.out (by kernel_rfl)) (fun _ _ _ h => h) (Or.inl ⟨by rfl, ?_⟩) ?_ ?_
      rotate_left
      ·
       intro w'
       go_simp
       with_reducible rfl
      rotate_left
      ·
       simp only [Act.put, List.setIfInBounds_toArray, List.set_cons_zero, List.set_cons_succ, i64_w, i32_w]
       rfl
      refine pure_ (i := 8) (N := some 42) (v := ?_) (a' := ?_) #[true, true, true, true, true, true, true, true, true, false] rfl rfl (any_of HT_.out (by kernel_rfl)) (fun _ _ _ h => h) (Or.inl ⟨by rfl, ?_⟩) ?_ ?_
      rotate_left
      ·
       intro w'
       go_simp
       with_reducible rfl
      rotate_left
      ·
       simp only [Act.put, List.setIfInBounds_toArray, List.set_cons_zero, List.set_cons_succ, i64_w, i32_w]
       rfl
      refine last_ (i := 9) (N := none) #[true, true, true, true, true, true, true, true, true, true] rfl rfl (one_of HT_.out (by kernel_rfl)) (by decide) (fun K hK => ?_)
      have hs69 : w68.cell? ⟨gb1478, 1, none⟩ = some (.int .i64 0) := (blk_cell BK1478.out 1).trans rfl
      have hfs69 := blk_frozen BK1478.out 1
      have hns69_0 := NB1473_1478.out
      have hns69_1 := NB1474_1478.out
      have hns69_2 := NB1475_1478.out
      have hms69_0 := NB1478_1473.out
      have hms69_1 := NB1478_1474.out
      have hms69_2 := NB1478_1475.out
      refine skip_ (w1 := ?_) (by rfl) rfl ?_ ?_
      rotate_left
      ·
       go_simp
       rfl
      refine hK.out _ _ ?_
      clear hK K
      refine done_ (done_of HT_.out (by kernel_rfl)) ?_
      have hcz70_0 : w68.cell? ⟨gb1478, 0, none⟩ = some (.int .i64 (Int.tmod (wrap64 ((wrap64 ((wrap64 (7 * a0_2)) + a0_0)) + a1_0)) 7)) := (blk_cell BK1478.out 0).trans rfl
      have hcz70_1 : w68.cell? ⟨gb1478, 1, none⟩ = some (.int .i64 0) := (blk_cell BK1478.out 1).trans rfl
      have hcz70_2 : w68.cell? ⟨gb1478, 2, none⟩ = some (.int .i64 (wrap64 (Int.tdiv (wrap64 ((wrap64 ((wrap64 (7 * a0_2)) + a0_0)) + a1_0)) 7))) := (blk_cell BK1478.out 2).trans rfl
      have hfz70_0 := blk_frozen BK1478.out 0
      have hfz70_1 := blk_frozen BK1478.out 1
      have hfz70_2 := blk_frozen BK1478.out 2
      try go_wp2_with (first | ((with_reducible refine gate_callee (f := 129) rfl ?_); refine goesL_ (some 44) rfl rfl Try.func129 (by kernel_rfl) rfl #[.agg #[.int .i64 (Int.tmod (wrap64 ((wrap64 ((wrap64 (7 * a0_2)) + a0_0)) + a1_0)) 7), .int .i64 (wrap64 ((wrap64 (t1479 + a1_1)) - t1480)), .int .i64 (wrap64 (Int.tdiv (wrap64 ((wrap64 ((wrap64 (7 * a0_2)) + a0_0)) + a1_0)) 7))]] rfl (by (try simp only [List.map_toArray, List.map_cons, List.map_nil]); first | done | rfl | (simp only [List.length_drop, List.length_take]; rfl)) ?_; (with_reducible refine (impl_IsNote.calls (Int.tmod (wrap64 ((wrap64 ((wrap64 (7 * a0_2)) + a0_0)) + a1_0)) 7) (wrap64 ((wrap64 (t1479 + a1_1)) - t1480)) (wrap64 (Int.tdiv (wrap64 ((wrap64 ((wrap64 (7 * a0_2)) + a0_0)) + a1_0)) 7)) false _ A34.out).mono ?_); rintro e w71 ⟨rfl, hb⟩; refine ⟨_, rfl, ?_⟩; have n0_ := Aside0.mk (blk_below (g := gb1473) (o := .cells #[.int .i64 a0_0, .int .i64 a0_1, .int .i64 a0_2] 64 (0, 0)) (by (with_reducible repeat (first | refine blk_drewN ?_ _ | refine blk_drew ?_ | refine blk_alloc ?_ _)); refine blk_far ?_ NB1473_1478.out _; (with_reducible repeat (first | refine blk_drewN ?_ _ | refine blk_drew ?_ | refine blk_alloc ?_ _)); exact BK1473.out) hb); have n1_ := Aside0.mk (blk_below (g := gb1474) (o := .cells #[.int .i64 a1_0, .int .i64 a1_1] 88 (0, 0)) (by (with_reducible repeat (first | refine blk_drewN ?_ _ | refine blk_drew ?_ | refine blk_alloc ?_ _)); refine blk_far ?_ NB1474_1478.out _; (with_reducible repeat (first | refine blk_drewN ?_ _ | refine blk_drew ?_ | refine blk_alloc ?_ _)); exact BK1474.out) hb); have n2_ := Aside0.mk (blk_below (g := gb1475) (o := .cells #[.int .i64 0, .int .i64 0, .int .i64 0] 64 (0, 0)) (by (with_reducible repeat (first | refine blk_drewN ?_ _ | refine blk_drew ?_ | refine blk_alloc ?_ _)); refine blk_far ?_ NB1475_1478.out _; (with_reducible repeat (first | refine blk_drewN ?_ _ | refine blk_drew ?_ | refine blk_alloc ?_ _)); exact BK1475.out) hb); have n3_ := Aside0.mk (blk_below (g := gb1478) (o := .cells #[.int .i64 (Int.tmod (wrap64 ((wrap64 ((wrap64 (7 * a0_2)) + a0_0)) + a1_0)) 7), .int .i64 (wrap64 ((wrap64 (t1479 + a1_1)) - t1480)), .int .i64 (wrap64 (Int.tdiv (wrap64 ((wrap64 ((wrap64 (7 * a0_2)) + a0_0)) + a1_0)) 7))] 64 (0, 0)) (by (with_reducible repeat (first | refine blk_drewN ?_ _ | refine blk_drew ?_ | refine blk_alloc ?_ _)); refine blk_put (cs := #[.int .i64 (Int.tmod (wrap64 ((wrap64 ((wrap64 (7 * a0_2)) + a0_0)) + a1_0)) 7), .int .i64 0, .int .i64 (wrap64 (Int.tdiv (wrap64 ((wrap64 ((wrap64 (7 * a0_2)) + a0_0)) + a1_0)) 7))]) ?_ 1 _ rfl; (with_reducible repeat (first | refine blk_drewN ?_ _ | refine blk_drew ?_ | refine blk_alloc ?_ _)); exact BK1478.out) hb); have n4_ := Aside0.mk (below_step (by repeat (first | (with_reducible first | exact HB.out | apply below_alloc | apply pw_below_drewN | apply below_drew1 | refine below_set ?_ GE1473.out | refine below_set ?_ GE1474.out | refine below_set ?_ GE1475.out | refine below_set ?_ GE1478.out) | exact HB.out)) hb); clear BK1473; clear BK1474; clear BK1475; clear BK1478; clear HB; have BK1473 := n0_; have BK1474 := n1_; have BK1475 := n2_; have BK1478 := n3_; have HB := n4_; clear n0_ n1_ n2_ n3_ n4_; (try clear hb); (try clear hb2); (try clear hk); (try clear hi); have hcz72_0 : w71.cell? ⟨gb1475, 0, none⟩ = some (.int .i64 0) := (blk_cell BK1475.out 0).trans rfl; have hcz72_1 : w71.cell? ⟨gb1475, 1, none⟩ = some (.int .i64 0) := (blk_cell BK1475.out 1).trans rfl; have hcz72_2 : w71.cell? ⟨gb1475, 2, none⟩ = some (.int .i64 0) := (blk_cell BK1475.out 2).trans rfl; have hfz72_0 := blk_frozen BK1475.out 0; have hfz72_1 := blk_frozen BK1475.out 1; have hfz72_2 := blk_frozen BK1475.out 2))
      refine bodyPost_ret (results_ct rfl _ _ gb1475 64 #[.int .i64 0, .int .i64 0, .int .i64 0] (0, 0) _ rfl (by (with_reducible repeat (first | refine blk_drewN ?_ _ | refine blk_drew ?_ | refine blk_alloc ?_ _)); refine blk_put (cs := #[.int .i64 0, .int .i64 0, .int .i64 0]) ?_ 2 _ rfl; (with_reducible repeat (first | refine blk_drewN ?_ _ | refine blk_drew ?_ | refine blk_alloc ?_ _)); refine blk_put (cs := #[.int .i64 0, .int .i64 0, .int .i64 0]) ?_ 1 _ rfl; (with_reducible repeat (first | refine blk_drewN ?_ _ | refine blk_drew ?_ | refine blk_alloc ?_ _)); refine blk_put (cs := #[.int .i64 0, .int .i64 0, .int .i64 0]) ?_ 0 _ rfl; (with_reducible repeat (first | refine blk_drewN ?_ _ | refine blk_drew ?_ | refine blk_alloc ?_ _)); exact BK1475.out) Try.underlying64 rfl (by kernel_rfl)) rfl ?_
      exact ⟨by first | rfl | (simp [errW_none, errW_some] <;> rfl) | (simp [*, errW_none, errW_some] <;> rfl), by repeat (first | (with_reducible first | exact HB.out | apply below_alloc | apply pw_below_drewN | apply below_drew1 | refine below_set ?_ GE1473.out | refine below_set ?_ GE1474.out | refine below_set ?_ GE1475.out | refine below_set ?_ GE1478.out) | exact HB.out)⟩
end Go.Proofs.Ytiophiipmgpaeaa.F

namespace Go.Proofs.Ytiophiipmgpaeaa.F
open Go.RowKit Go.Proofs.YtiophiipmgpaeaaW.PrintWords Go.Proofs.YtiophiipmgpaeaaW.PrintLast Go.Proofs.YtiophiipmgpaeaaW.PrintMore
attribute [local go_sem] max2_int min2_int max_two min_two max_three min_three max_four min_four
set_option linter.unusedVariables false
set_option linter.unusedSimpArgs false
def impl_Mod.f (a0 : Int) (a1 : Int) : Option (Int) := (impl_InRange.f a1 1 1000000000000).bind fun t1144 => (if t1144 = true then (if a1 = 0 then (none) else (some (Int.tmod (wrap64 ((Int.tmod a0 a1) + a1)) a1))) else (some 0))
set_option maxHeartbeats 8000000 in
set_option maxRecDepth 100000 in
theorem impl_Mod.calls (a0 : Int) (a1 : Int) (r : Int) (w : World) (h : impl_Mod.f a0 a1 = some r) :
  Calls Try.prog 130 #[.int .i64 a0, .int .i64 a1] w fun e w' => e = .returned (.int .i64 r) ∧ Drawn0 w w' := by
 have H : ((impl_InRange.f a1 1 1000000000000).bind fun t1144 => (if t1144 = true then (if a1 = 0 then (none) else (some (Int.tmod (wrap64 ((Int.tmod a0 a1) + a1)) a1))) else (some 0))) = some r := h
 clear h
 replace H := Option.bind_eq_some_iff.mp H
 obtain ⟨t1144, A30, H⟩ := H
 try dsimp only at H
 have A3 := Aside0.mk A30
 clear A30
 by_cases c4 : t1144 = true
 ·
  subst c4
  rw [if_pos rfl] at H
  by_cases c5 : a1 = 0
  ·
   rw [if_pos c5] at H
   exact absurd H (by simp)
  ·
   rw [if_neg c5] at H
   have c5b0 : (a1 == 0) = false := beq_eq_false_iff_ne.mpr c5
   have c5b1 : (a1 != 0) = true := bne_iff_ne.mpr c5
   obtain rfl := Option.some.inj H
   go_enter Try.func130, Try.ntmps130
   go_wp2_with (first | ((with_reducible refine gate_callee (f := 82) rfl ?_); refine goesL_ (some 6) rfl rfl Try.func82 (by kernel_rfl) rfl #[.int .i64 a1, .int .i64 1, .int .i64 1000000000000] rfl (by (try simp only [List.map_toArray, List.map_cons, List.map_nil]); first | done | rfl | (simp only [List.length_drop, List.length_take]; rfl)) ?_; (with_reducible refine (impl_InRange.calls a1 1 1000000000000 true _ A3.out).mono ?_); rintro e w' ⟨rfl, ⟨nd, rfl⟩⟩; refine ⟨_, rfl, ?_⟩))
   go_ret
   exact ⟨by first | rfl | (simp; done) | (simp [*]; done), by repeat (first | exact Drawn0.refl _ | apply Drawn0.step)⟩
 ·
  replace c4 := Bool.eq_false_iff.mpr c4
  subst c4
  rw [if_neg (show ¬ (false = true) by decide)] at H
  obtain rfl := Option.some.inj H
  go_enter Try.func130, Try.ntmps130
  go_wp2_with (first | ((with_reducible refine gate_callee (f := 82) rfl ?_); refine goesL_ (some 6) rfl rfl Try.func82 (by kernel_rfl) rfl #[.int .i64 a1, .int .i64 1, .int .i64 1000000000000] rfl (by (try simp only [List.map_toArray, List.map_cons, List.map_nil]); first | done | rfl | (simp only [List.length_drop, List.length_take]; rfl)) ?_; (with_reducible refine (impl_InRange.calls a1 1 1000000000000 false _ A3.out).mono ?_); rintro e w' ⟨rfl, ⟨nd, rfl⟩⟩; refine ⟨_, rfl, ?_⟩))
  go_ret
  exact ⟨by first | rfl | (simp; done) | (simp [*]; done), by repeat (first | exact Drawn0.refl _ | apply Drawn0.step)⟩
end Go.Proofs.Ytiophiipmgpaeaa.F

namespace Go.Proofs.Ytiophiipmgpaeaa.F
open Go.RowKit Go.Proofs.YtiophiipmgpaeaaW.PrintWords Go.Proofs.YtiophiipmgpaeaaW.PrintLast Go.Proofs.YtiophiipmgpaeaaW.PrintMore
attribute [local go_sem] max2_int min2_int max_two min_two max_three min_three max_four min_four
set_option linter.unusedVariables false
set_option linter.unusedSimpArgs false
def impl_TonicOf.f (a0 : Int) : Option (Int) := (impl_IsKey.f a0).bind fun t1486 => (if t1486 = true then ((impl_Mod.f (wrap64 (7 * a0)) 12).bind fun t1487 => (some t1487)) else (some (-1)))
set_option maxHeartbeats 8000000 in
set_option maxRecDepth 100000 in
theorem impl_TonicOf.calls (a0 : Int) (r : Int) (w : World) (h : impl_TonicOf.f a0 = some r) :
  Calls Try.prog 76 #[.int .i64 a0] w fun e w' => e = .returned (.int .i64 r) ∧ Drawn0 w w' := by
 have H : ((impl_IsKey.f a0).bind fun t1486 => (if t1486 = true then ((impl_Mod.f (wrap64 (7 * a0)) 12).bind fun t1487 => (some t1487)) else (some (-1)))) = some r := h
 clear h
 replace H := Option.bind_eq_some_iff.mp H
 obtain ⟨t1486, A20, H⟩ := H
 try dsimp only at H
 have A2 := Aside0.mk A20
 clear A20
 by_cases c3 : t1486 = true
 ·
  subst c3
  rw [if_pos rfl] at H
  replace H := Option.bind_eq_some_iff.mp H
  obtain ⟨t1487, A40, H⟩ := H
  try dsimp only at H
  have A4 := Aside0.mk A40
  clear A40
  obtain rfl := Option.some.inj H
  go_enter Try.func76, Try.ntmps76
  go_wp2_with (first | ((with_reducible refine gate_callee (f := 79) rfl ?_); refine goesL_ (some 4) rfl rfl Try.func79 (by kernel_rfl) rfl #[.int .i64 a0] rfl (by (try simp only [List.map_toArray, List.map_cons, List.map_nil]); first | done | rfl | (simp only [List.length_drop, List.length_take]; rfl)) ?_; (with_reducible refine (impl_IsKey.calls a0 true _ A2.out).mono ?_); rintro e w' ⟨rfl, ⟨nd, rfl⟩⟩; refine ⟨_, rfl, ?_⟩) | ((with_reducible refine gate_callee (f := 130) rfl ?_); refine goesL_ (some 8) rfl rfl Try.func130 (by kernel_rfl) rfl #[.int .i64 (wrap64 (7 * a0)), .int .i64 12] rfl (by (try simp only [List.map_toArray, List.map_cons, List.map_nil]); first | done | rfl | (simp only [List.length_drop, List.length_take]; rfl)) ?_; (with_reducible refine (impl_Mod.calls (wrap64 (7 * a0)) 12 t1487 _ A4.out).mono ?_); rintro e w' ⟨rfl, ⟨nd, rfl⟩⟩; refine ⟨_, rfl, ?_⟩))
  go_ret
  exact ⟨by first | rfl | (simp; done) | (simp [*]; done), by repeat (first | exact Drawn0.refl _ | apply Drawn0.step)⟩
 ·
  replace c3 := Bool.eq_false_iff.mpr c3
  subst c3
  rw [if_neg (show ¬ (false = true) by decide)] at H
  obtain rfl := Option.some.inj H
  go_enter Try.func76, Try.ntmps76
  go_wp2_with (first | ((with_reducible refine gate_callee (f := 79) rfl ?_); refine goesL_ (some 4) rfl rfl Try.func79 (by kernel_rfl) rfl #[.int .i64 a0] rfl (by (try simp only [List.map_toArray, List.map_cons, List.map_nil]); first | done | rfl | (simp only [List.length_drop, List.length_take]; rfl)) ?_; (with_reducible refine (impl_IsKey.calls a0 false _ A2.out).mono ?_); rintro e w' ⟨rfl, ⟨nd, rfl⟩⟩; refine ⟨_, rfl, ?_⟩))
  go_ret
  exact ⟨by first | rfl | (simp; done) | (simp [*]; done), by repeat (first | exact Drawn0.refl _ | apply Drawn0.step)⟩
end Go.Proofs.Ytiophiipmgpaeaa.F

namespace Go.Proofs.Ytiophiipmgpaeaa.F
open Go.RowKit Go.Proofs.YtiophiipmgpaeaaW.PrintWords Go.Proofs.YtiophiipmgpaeaaW.PrintLast Go.Proofs.YtiophiipmgpaeaaW.PrintMore
attribute [local go_sem] max2_int min2_int max_two min_two max_three min_three max_four min_four
set_option linter.unusedVariables false
set_option linter.unusedSimpArgs false
def spec_DrawSpellIn.f (k : Nat) (l0 : List Int) : Option (Int × Int) := (spec_l1New.f k l0).bind fun bt1488 => ((spec_l7Any.f bt1488.1 bt1488.2.1 bt1488.2.2).bind fun bt1492 => ((spec_l1Below.f bt1488.1 bt1492.2.1 bt1492.2.2 40).bind fun bt1495 => ((spec_l1Below.f bt1488.1 bt1495.2.1 bt1495.2.2 40).bind fun bt1498 => ((spec_l1Int.f bt1488.1 bt1498.2.1 bt1498.2.2 (([11, 12, 119, 120, wrap64 (40 + bt1495.1), wrap64 (40 + bt1498.1)] : List Int))).bind fun bt1504 => (some (bt1492.1, bt1504.1))))))
set_option maxHeartbeats 8000000 in
set_option maxRecDepth 100000 in
theorem spec_DrawSpellIn.calls (k : Nat) (A0 : Option Addr) (c0 : Nat) (l0 : List Int) (r1 : Int) (r2 : Int) (w : World) (hr0 : Kd.C (Kd.int .u8) w A0 l0.length l0) (hc0 : l0.length ≤ c0) (h : spec_DrawSpellIn.f k l0 = some (r1, r2)) :
  Calls Try.prog 77 #[.slice A0 l0.length c0] w fun e w' => e = .returned (.tuple #[.int .i64 r1, .int .i64 r2]) ∧ Below w.heap.size w w' := by
 have HR0 := Aside0.mk hr0
 have HC0 := Aside0.mk hc0
 clear hr0 hc0
 have HB := Aside0.mk (Below.refl w.heap.size w)
 have H : ((spec_l1New.f k l0).bind fun bt1488 => ((spec_l7Any.f bt1488.1 bt1488.2.1 bt1488.2.2).bind fun bt1492 => ((spec_l1Below.f bt1488.1 bt1492.2.1 bt1492.2.2 40).bind fun bt1495 => ((spec_l1Below.f bt1488.1 bt1495.2.1 bt1495.2.2 40).bind fun bt1498 => ((spec_l1Int.f bt1488.1 bt1498.2.1 bt1498.2.2 (([11, 12, 119, 120, wrap64 (40 + bt1495.1), wrap64 (40 + bt1498.1)] : List Int))).bind fun bt1504 => (some (bt1492.1, bt1504.1))))))) = some (r1, r2) := h
 clear h
 replace H := Option.bind_eq_some_iff.mp H
 obtain ⟨⟨t1488, t1489, t1490⟩, A20, H⟩ := H
 try dsimp only at H
 have A2 := Aside0.mk A20
 clear A20
 replace H := Option.bind_eq_some_iff.mp H
 obtain ⟨⟨t1492, t1493, t1494⟩, A30, H⟩ := H
 try dsimp only at H
 have A3 := Aside0.mk A30
 clear A30
 replace H := Option.bind_eq_some_iff.mp H
 obtain ⟨⟨t1495, t1496, t1497⟩, A40, H⟩ := H
 try dsimp only at H
 have A4 := Aside0.mk A40
 clear A40
 replace H := Option.bind_eq_some_iff.mp H
 obtain ⟨⟨t1498, t1499, t1500⟩, A50, H⟩ := H
 try dsimp only at H
 have A5 := Aside0.mk A50
 clear A50
 obtain ⟨y1501, hy1501⟩ : ∃ y_ : List Int, y_ = (([11, 12, 119, 120, wrap64 (40 + t1495), wrap64 (40 + t1498)] : List Int)) := ⟨_, rfl⟩
 replace H : ((spec_l1Int.f t1488 t1499 t1500 y1501).bind fun bt1504 => (some (t1492, bt1504.1))) = some (r1, r2) := by first | (rw [hy1501]; with_reducible exact H) | (have H2_ := (Option.bind_some _ _).symm.trans H; rw [hy1501]; with_reducible exact H2_) | (have H2_ := (Option.bind_some _ _).symm.trans H; with_reducible exact H2_) | with_reducible exact H | (rw [hy1501]; exact H) | exact H
 have Ny1501 := Aside0.mk hy1501
 clear hy1501
 replace H := Option.bind_eq_some_iff.mp H
 obtain ⟨⟨t1504, t1505, t1506⟩, A60, H⟩ := H
 try dsimp only at H
 have A6 := Aside0.mk A60
 clear A60
 simp only [Option.some.injEq, Prod.mk.injEq] at H
 obtain ⟨rfl, rfl⟩ := H
 go_enter Try.func77, Try.ntmps77
 go_wp2_with (first | ((with_reducible refine gate_callee (f := 119) rfl ?_); refine goesL_ (some 7) rfl rfl Try.func119 (by kernel_rfl) rfl #[.slice A0 l0.length c0] rfl (by (try simp only [List.map_toArray, List.map_cons, List.map_nil]); first | done | rfl | (simp only [List.length_drop, List.length_take]; rfl)) ?_; (with_reducible refine (spec_l1New.calls k _ _ l0 t1488 t1489 t1490 w _ ?side1 ?side2 ?side3 A2.out).mono ?_); (case side1 => repeat (first | (with_reducible first | exact HB.out | apply below_alloc | apply pw_below_drewN | apply below_drew1) | exact HB.out)); (case side2 => exact HR0.out); (case side3 => exact HC0.out); rintro e w7 ⟨g1491, rfl, hi, hb, hb2⟩; refine ⟨_, rfl, ?_⟩; have n0_ := Aside0.mk (hb); have n1_ := Aside0.mk (hi); clear HB; have HB := n0_; have HI1491 := n1_; clear n0_ n1_; (try clear hb); (try clear hb2); (try clear hk); (try clear hi)) | ((with_reducible refine gate_callee (f := 125) rfl ?_); refine goesL_ (some 9) rfl rfl Try.func125 (by kernel_rfl) rfl #[.pointer (some ⟨g1491, 0, none⟩)] rfl (by (try simp only [List.map_toArray, List.map_cons, List.map_nil]); first | done | rfl | (simp only [List.length_drop, List.length_take]; rfl)) ?_; (with_reducible refine (spec_l7Any.calls g1491 t1488 t1489 t1490 t1492 t1493 t1494 w _ ?side1 ?side2 A3.out).mono ?_); (case side1 => repeat (first | (with_reducible first | exact HI1491.out | apply IsS176.alloc | apply IsS176.drewN | apply IsS176.drew | apply IsS176.set_1 | apply IsS176.set_2) | exact HI1491.out)); (case side2 => repeat (first | (with_reducible first | exact HB.out | apply below_alloc | apply pw_below_drewN | apply below_drew1 | refine below_set ?_ (IsS176.ge HI1491.out)) | exact HB.out)); rintro e w8 ⟨rfl, hi, hb, hk⟩; refine ⟨_, rfl, ?_⟩; have n0_ := Aside0.mk (hb); have n1_ := Aside0.mk (hi); clear HB; clear HI1491; have HB := n0_; have HI1491 := n1_; clear n0_ n1_; (try clear hb); (try clear hb2); (try clear hk); (try clear hi)) | ((with_reducible refine gate_callee (f := 121) rfl ?_); refine goesL_ (some 13) rfl rfl Try.func121 (by kernel_rfl) rfl #[.pointer (some ⟨g1491, 0, none⟩), .int .i64 40] rfl (by (try simp only [List.map_toArray, List.map_cons, List.map_nil]); first | done | rfl | (simp only [List.length_drop, List.length_take]; rfl)) ?_; (with_reducible refine (spec_l1Below.calls g1491 t1488 t1493 t1494 40 t1495 t1496 t1497 w _ ?side1 ?side2 A4.out).mono ?_); (case side1 => repeat (first | (with_reducible first | exact HI1491.out | apply IsS176.alloc | apply IsS176.drewN | apply IsS176.drew | apply IsS176.set_1 | apply IsS176.set_2) | exact HI1491.out)); (case side2 => repeat (first | (with_reducible first | exact HB.out | apply below_alloc | apply pw_below_drewN | apply below_drew1 | refine below_set ?_ (IsS176.ge HI1491.out)) | exact HB.out)); rintro e w9 ⟨rfl, hi, hb, hk⟩; refine ⟨_, rfl, ?_⟩; have n0_ := Aside0.mk (hb); have n1_ := Aside0.mk (hi); clear HB; clear HI1491; have HB := n0_; have HI1491 := n1_; clear n0_ n1_; (try clear hb); (try clear hb2); (try clear hk); (try clear hi)) | ((with_reducible refine gate_callee (f := 121) rfl ?_); refine goesL_ (some 16) rfl rfl Try.func121 (by kernel_rfl) rfl #[.pointer (some ⟨g1491, 0, none⟩), .int .i64 40] rfl (by (try simp only [List.map_toArray, List.map_cons, List.map_nil]); first | done | rfl | (simp only [List.length_drop, List.length_take]; rfl)) ?_; (with_reducible refine (spec_l1Below.calls g1491 t1488 t1496 t1497 40 t1498 t1499 t1500 w _ ?side1 ?side2 A5.out).mono ?_); (case side1 => repeat (first | (with_reducible first | exact HI1491.out | apply IsS176.alloc | apply IsS176.drewN | apply IsS176.drew | apply IsS176.set_1 | apply IsS176.set_2) | exact HI1491.out)); (case side2 => repeat (first | (with_reducible first | exact HB.out | apply below_alloc | apply pw_below_drewN | apply below_drew1 | refine below_set ?_ (IsS176.ge HI1491.out)) | exact HB.out)); rintro e w10 ⟨rfl, hi, hb, hk⟩; refine ⟨_, rfl, ?_⟩; have n0_ := Aside0.mk (hb); have n1_ := Aside0.mk (hi); clear HB; clear HI1491; have HB := n0_; have HI1491 := n1_; clear n0_ n1_; (try clear hb); (try clear hb2); (try clear hk); (try clear hi)) | ((with_reducible refine gate_dst (N := 18) rfl ?_); refine Kd.R_lit (Kd.int .i64) _ 3 ?hg (N := 18) ?hd (xs := ([11, 12, 119, 120, wrap64 (40 + t1495), wrap64 (40 + t1498)] : List Int)) (inner := [.int .i64 11, .int .i64 12, .int .i64 119, .int .i64 120, .int .i64 (wrap64 (40 + t1495)), .int .i64 (wrap64 (40 + t1498))]) (ok := fun _ => True) (okp := fun _ => True) ?hr ?hp (fun _ hk => hk) trivial (Below.refl _ _) (Nat.le_refl _) (by simp) ?_; (case hd => rfl); (case hg => rfl); (case hr => first | (go_simp; done) | (go_simp; rfl)); (case hp => exact (Reps.one (show Kd.M (Kd.int .i64) _ _ _ 11 [.int .i64 11] from rfl) (Reps.one (show Kd.M (Kd.int .i64) _ _ _ 12 [.int .i64 12] from rfl) (Reps.one (show Kd.M (Kd.int .i64) _ _ _ 119 [.int .i64 119] from rfl) (Reps.one (show Kd.M (Kd.int .i64) _ _ _ 120 [.int .i64 120] from rfl) (Reps.one (show Kd.M (Kd.int .i64) _ _ _ (wrap64 (40 + t1495)) [.int .i64 (wrap64 (40 + t1495))] from rfl) (Reps.one (show Kd.M (Kd.int .i64) _ _ _ (wrap64 (40 + t1498)) [.int .i64 (wrap64 (40 + t1498))] from rfl) (Reps.none _ _)))))))); intro v1502 w11 ho12 hb hg_ hnew_; clear hg_ hnew_; (first | rw [← Ny1501.out] at ho12 | (simp only [Int.reduceToNat] at ho12; rw [← Ny1501.out] at ho12)); have n0_ := Aside0.mk (Kd.R_lower ho12 (below_size (by repeat (first | (with_reducible first | exact HB.out | apply below_alloc | apply pw_below_drewN | apply below_drew1 | refine below_set ?_ (IsS176.ge HI1491.out)) | exact HB.out)))); have n1_ := Aside0.mk (IsS176.below (by repeat (first | (with_reducible first | exact HI1491.out | apply IsS176.alloc | apply IsS176.drewN | apply IsS176.drew | apply IsS176.set_1 | apply IsS176.set_2) | exact HI1491.out)) hb); have n2_ := Aside0.mk (below_step (by repeat (first | (with_reducible first | exact HB.out | apply below_alloc | apply pw_below_drewN | apply below_drew1 | refine below_set ?_ (IsS176.ge HI1491.out)) | exact HB.out)) hb); clear HI1491; clear HB; have HO1503 := n0_; have HI1491 := n1_; have HB := n2_; clear n0_ n1_ n2_; clear hb ho12; obtain ⟨Ao13, co13, eo13⟩ := Kd.R_slice HO1503.out; subst eo13) | ((with_reducible refine gate_callee (f := 131) rfl ?_); refine goesL_ (some 19) rfl rfl Try.func131 (by kernel_rfl) rfl #[.pointer (some ⟨g1491, 0, none⟩), .slice Ao13 y1501.length co13] rfl (by (try simp only [List.map_toArray, List.map_cons, List.map_nil]); first | done | rfl | (simp only [List.length_drop, List.length_take]; rfl)) ?_; (with_reducible refine (spec_l1Int.calls g1491 t1488 t1499 t1500 _ _ y1501 t1504 t1505 t1506 w _ ?side1 ?side2 ?side3 ?side4 ?side5 A6.out).mono ?_); (case side1 => repeat (first | (with_reducible first | exact HI1491.out | apply IsS176.alloc | apply IsS176.drewN | apply IsS176.drew | apply IsS176.set_1 | apply IsS176.set_2) | exact HI1491.out)); (case side2 => repeat (first | (with_reducible first | exact HB.out | apply below_alloc | apply pw_below_drewN | apply below_drew1 | refine below_set ?_ (IsS176.ge HI1491.out)) | exact HB.out)); (case side3 => repeat (first | exact (Kd.R_reads' HO1503.out).2.2 | (with_reducible refine Kd.C_alloc ?_ _) | (with_reducible refine Kd.C_drewN ?_ _) | (with_reducible refine Kd.C_drew ?_))); (case side4 => exact (Kd.R_reads' HO1503.out).2.1); (case side5 => exact far_slice (IsS176.own_ne HI1491.out HO1503.out (by decide))); rintro e w14 ⟨rfl, hi, hb, hk⟩; refine ⟨_, rfl, ?_⟩; have n0_ := Aside0.mk (Kd.R_mono (Kd.R_keep (IsS176.apart (show IsS176 w _ g1491 t1488 t1499 t1500 from by repeat (first | (with_reducible first | exact HI1491.out | apply IsS176.alloc | apply IsS176.drewN | apply IsS176.drew | apply IsS176.set_1 | apply IsS176.set_2) | exact HI1491.out)) (by (with_reducible repeat (first | apply Kd.R_alloc | apply Kd.R_drewN | apply Kd.R_drew)); exact HO1503.out) (by decide)) hk (fun _ h => h.2)) (fun _ h => h.1)); have n1_ := Aside0.mk (hb); have n2_ := Aside0.mk (hi); clear HO1503; clear HB; clear HI1491; have HO1503 := n0_; have HB := n1_; have HI1491 := n2_; clear n0_ n1_ n2_; (try clear hb); (try clear hb2); (try clear hk); (try clear hi)))
 go_ret2
 exact ⟨by first | rfl | (simp [errW_none, errW_some] <;> rfl) | (simp [*, errW_none, errW_some] <;> rfl), by repeat (first | (with_reducible first | exact HB.out | apply below_alloc | apply pw_below_drewN | apply below_drew1 | refine below_set ?_ (IsS176.ge HI1491.out)) | exact HB.out)⟩
end Go.Proofs.Ytiophiipmgpaeaa.F

namespace Go.Proofs.Ytiophiipmgpaeaa.F
open Go.RowKit Go.Proofs.YtiophiipmgpaeaaW.PrintWords Go.Proofs.YtiophiipmgpaeaaW.PrintLast Go.Proofs.YtiophiipmgpaeaaW.PrintMore
attribute [local go_sem] max2_int min2_int max_two min_two max_three min_three max_four min_four
set_option linter.unusedVariables false
set_option linter.unusedSimpArgs false
def impl_PitchOf.f (a0_0 : Int) (a0_1 : Int) (a0_2 : Int) : Option (Int) := (impl_IsNote.f a0_0 a0_1 a0_2).bind fun t1508 => (if t1508 = true then ((impl_Note_pitch.f a0_0 a0_1 a0_2).bind fun t1509 => (some t1509)) else (some (-1)))
set_option maxHeartbeats 8000000 in
set_option maxRecDepth 100000 in
theorem impl_PitchOf.calls (a0_0 : Int) (a0_1 : Int) (a0_2 : Int) (r : Int) (w : World) (h : impl_PitchOf.f a0_0 a0_1 a0_2 = some r) :
  Calls Try.prog 78 #[.agg #[.int .i64 a0_0, .int .i64 a0_1, .int .i64 a0_2]] w fun e w' => e = .returned (.int .i64 r) ∧ Below w.heap.size w w' := by
 have hu64 := Try.underlying64
 have HB := Aside0.mk (Below.refl w.heap.size w)
 have H : ((impl_IsNote.f a0_0 a0_1 a0_2).bind fun t1508 => (if t1508 = true then ((impl_Note_pitch.f a0_0 a0_1 a0_2).bind fun t1509 => (some t1509)) else (some (-1)))) = some r := h
 clear h
 replace H := Option.bind_eq_some_iff.mp H
 obtain ⟨t1508, A20, H⟩ := H
 try dsimp only at H
 have A2 := Aside0.mk A20
 clear A20
 by_cases c3 : t1508 = true
 ·
  subst c3
  rw [if_pos rfl] at H
  replace H := Option.bind_eq_some_iff.mp H
  obtain ⟨t1509, A40, H⟩ := H
  try dsimp only at H
  have A4 := Aside0.mk A40
  clear A40
  obtain rfl := Option.some.inj H
  go_enter Try.func78, Try.ntmps78
  go_wp2_with (first | ((with_reducible refine gate_dst (N := 1) rfl ?_); refine box_event ?hg (N := 1) ?hd (cs := #[.int .i64 a0_0, .int .i64 a0_1, .int .i64 a0_2]) (t := 64) ?hr ?_; (case hd => rfl); (case hg => rfl); (case hr => first | (go_simp; done) | (go_simp; rfl)); intro gb1507 hg w5 hbox hb; have n0_ := Aside0.mk (below_step (by repeat (first | (with_reducible first | exact HB.out | apply below_alloc | apply pw_below_drewN | apply below_drew1) | exact HB.out)) hb); have n1_ := Aside0.mk (hbox); have n2_ := Aside0.mk ((by rw [hg]; exact (below_size (by repeat (first | (with_reducible first | exact HB.out | apply below_alloc | apply pw_below_drewN | apply below_drew1) | exact HB.out))) : w.heap.size ≤ gb1507)); have n3_ := Aside0.mk ((by rw [hg]; exact (below_size (by repeat (first | (with_reducible first | exact HB.out | apply below_alloc | apply pw_below_drewN | apply below_drew1) | exact HB.out))) : w.heap.size ≤ gb1507)); clear HB; have HB := n0_; have BK1507 := n1_; have GW1507 := n2_; have GE1507 := n3_; clear n0_ n1_ n2_ n3_; clear hb hbox hg; have hcz6_0 : w5.cell? ⟨gb1507, 0, none⟩ = some (.int .i64 a0_0) := (blk_cell BK1507.out 0).trans rfl; have hcz6_1 : w5.cell? ⟨gb1507, 1, none⟩ = some (.int .i64 a0_1) := (blk_cell BK1507.out 1).trans rfl; have hcz6_2 : w5.cell? ⟨gb1507, 2, none⟩ = some (.int .i64 a0_2) := (blk_cell BK1507.out 2).trans rfl; have hfz6_0 := blk_frozen BK1507.out 0; have hfz6_1 := blk_frozen BK1507.out 1; have hfz6_2 := blk_frozen BK1507.out 2) | ((with_reducible refine gate_callee (f := 129) rfl ?_); refine goesL_ (some 4) rfl rfl Try.func129 (by kernel_rfl) rfl #[.agg #[.int .i64 a0_0, .int .i64 a0_1, .int .i64 a0_2]] rfl (by (try simp only [List.map_toArray, List.map_cons, List.map_nil]); first | done | rfl | (simp only [List.length_drop, List.length_take]; rfl)) ?_; (with_reducible refine (impl_IsNote.calls a0_0 a0_1 a0_2 true _ A2.out).mono ?_); rintro e w7 ⟨rfl, hb⟩; refine ⟨_, rfl, ?_⟩; have n0_ := Aside0.mk (blk_below (g := gb1507) (o := .cells #[.int .i64 a0_0, .int .i64 a0_1, .int .i64 a0_2] 64 (0, 0)) (by (with_reducible repeat (first | refine blk_drewN ?_ _ | refine blk_drew ?_ | refine blk_alloc ?_ _)); exact BK1507.out) hb); have n1_ := Aside0.mk (below_step (by repeat (first | (with_reducible first | exact HB.out | apply below_alloc | apply pw_below_drewN | apply below_drew1 | refine below_set ?_ GE1507.out) | exact HB.out)) hb); clear BK1507; clear HB; have BK1507 := n0_; have HB := n1_; clear n0_ n1_; (try clear hb); (try clear hb2); (try clear hk); (try clear hi); have hcz8_0 : w7.cell? ⟨gb1507, 0, none⟩ = some (.int .i64 a0_0) := (blk_cell BK1507.out 0).trans rfl; have hcz8_1 : w7.cell? ⟨gb1507, 1, none⟩ = some (.int .i64 a0_1) := (blk_cell BK1507.out 1).trans rfl; have hcz8_2 : w7.cell? ⟨gb1507, 2, none⟩ = some (.int .i64 a0_2) := (blk_cell BK1507.out 2).trans rfl; have hfz8_0 := blk_frozen BK1507.out 0; have hfz8_1 := blk_frozen BK1507.out 1; have hfz8_2 := blk_frozen BK1507.out 2) | ((with_reducible refine gate_callee (f := 105) rfl ?_); refine goesL_ (some 7) rfl rfl Try.func105 (by kernel_rfl) rfl #[.agg #[.int .i64 a0_0, .int .i64 a0_1, .int .i64 a0_2]] rfl (by (try simp only [List.map_toArray, List.map_cons, List.map_nil]); first | done | rfl | (simp only [List.length_drop, List.length_take]; rfl)) ?_; (with_reducible refine (impl_Note_pitch.calls a0_0 a0_1 a0_2 t1509 _ A4.out).mono ?_); rintro e w9 ⟨rfl, hb⟩; refine ⟨_, rfl, ?_⟩; have n0_ := Aside0.mk (blk_below (g := gb1507) (o := .cells #[.int .i64 a0_0, .int .i64 a0_1, .int .i64 a0_2] 64 (0, 0)) (by (with_reducible repeat (first | refine blk_drewN ?_ _ | refine blk_drew ?_ | refine blk_alloc ?_ _)); exact BK1507.out) hb); have n1_ := Aside0.mk (below_step (by repeat (first | (with_reducible first | exact HB.out | apply below_alloc | apply pw_below_drewN | apply below_drew1 | refine below_set ?_ GE1507.out) | exact HB.out)) hb); clear BK1507; clear HB; have BK1507 := n0_; have HB := n1_; clear n0_ n1_; (try clear hb); (try clear hb2); (try clear hk); (try clear hi)))
  go_ret
  exact ⟨by first | rfl | (simp [errW_none, errW_some] <;> rfl) | (simp [*, errW_none, errW_some] <;> rfl), by repeat (first | (with_reducible first | exact HB.out | apply below_alloc | apply pw_below_drewN | apply below_drew1 | refine below_set ?_ GE1507.out) | exact HB.out)⟩
 ·
  replace c3 := Bool.eq_false_iff.mpr c3
  subst c3
  rw [if_neg (show ¬ (false = true) by decide)] at H
  obtain rfl := Option.some.inj H
  go_enter Try.func78, Try.ntmps78
  go_wp2_with (first | ((with_reducible refine gate_dst (N := 1) rfl ?_); refine box_event ?hg (N := 1) ?hd (cs := #[.int .i64 a0_0, .int .i64 a0_1, .int .i64 a0_2]) (t := 64) ?hr ?_; (case hd => rfl); (case hg => rfl); (case hr => first | (go_simp; done) | (go_simp; rfl)); intro gb1507 hg w10 hbox hb; have n0_ := Aside0.mk (below_step (by repeat (first | (with_reducible first | exact HB.out | apply below_alloc | apply pw_below_drewN | apply below_drew1) | exact HB.out)) hb); have n1_ := Aside0.mk (hbox); have n2_ := Aside0.mk ((by rw [hg]; exact (below_size (by repeat (first | (with_reducible first | exact HB.out | apply below_alloc | apply pw_below_drewN | apply below_drew1) | exact HB.out))) : w.heap.size ≤ gb1507)); have n3_ := Aside0.mk ((by rw [hg]; exact (below_size (by repeat (first | (with_reducible first | exact HB.out | apply below_alloc | apply pw_below_drewN | apply below_drew1) | exact HB.out))) : w.heap.size ≤ gb1507)); clear HB; have HB := n0_; have BK1507 := n1_; have GW1507 := n2_; have GE1507 := n3_; clear n0_ n1_ n2_ n3_; clear hb hbox hg; have hcz11_0 : w10.cell? ⟨gb1507, 0, none⟩ = some (.int .i64 a0_0) := (blk_cell BK1507.out 0).trans rfl; have hcz11_1 : w10.cell? ⟨gb1507, 1, none⟩ = some (.int .i64 a0_1) := (blk_cell BK1507.out 1).trans rfl; have hcz11_2 : w10.cell? ⟨gb1507, 2, none⟩ = some (.int .i64 a0_2) := (blk_cell BK1507.out 2).trans rfl; have hfz11_0 := blk_frozen BK1507.out 0; have hfz11_1 := blk_frozen BK1507.out 1; have hfz11_2 := blk_frozen BK1507.out 2) | ((with_reducible refine gate_callee (f := 129) rfl ?_); refine goesL_ (some 4) rfl rfl Try.func129 (by kernel_rfl) rfl #[.agg #[.int .i64 a0_0, .int .i64 a0_1, .int .i64 a0_2]] rfl (by (try simp only [List.map_toArray, List.map_cons, List.map_nil]); first | done | rfl | (simp only [List.length_drop, List.length_take]; rfl)) ?_; (with_reducible refine (impl_IsNote.calls a0_0 a0_1 a0_2 false _ A2.out).mono ?_); rintro e w12 ⟨rfl, hb⟩; refine ⟨_, rfl, ?_⟩; have n0_ := Aside0.mk (blk_below (g := gb1507) (o := .cells #[.int .i64 a0_0, .int .i64 a0_1, .int .i64 a0_2] 64 (0, 0)) (by (with_reducible repeat (first | refine blk_drewN ?_ _ | refine blk_drew ?_ | refine blk_alloc ?_ _)); exact BK1507.out) hb); have n1_ := Aside0.mk (below_step (by repeat (first | (with_reducible first | exact HB.out | apply below_alloc | apply pw_below_drewN | apply below_drew1 | refine below_set ?_ GE1507.out) | exact HB.out)) hb); clear BK1507; clear HB; have BK1507 := n0_; have HB := n1_; clear n0_ n1_; (try clear hb); (try clear hb2); (try clear hk); (try clear hi)))
  go_ret
  exact ⟨by first | rfl | (simp [errW_none, errW_some] <;> rfl) | (simp [*, errW_none, errW_some] <;> rfl), by repeat (first | (with_reducible first | exact HB.out | apply below_alloc | apply pw_below_drewN | apply below_drew1 | refine below_set ?_ GE1507.out) | exact HB.out)⟩
end Go.Proofs.Ytiophiipmgpaeaa.F

namespace Go.Proofs.Ytiophiipmgpaeaa.F
open Go.RowKit Go.Proofs.YtiophiipmgpaeaaW.PrintWords Go.Proofs.YtiophiipmgpaeaaW.PrintLast Go.Proofs.YtiophiipmgpaeaaW.PrintMore
attribute [local go_sem] max2_int min2_int max_two min_two max_three min_three max_four min_four
set_option linter.unusedVariables false
set_option linter.unusedSimpArgs false
mutual
def laws_FnKeys.j1 : Nat → List Int → Int → Option (Bool)
 | 0, _, _ => none
 | k + 1, x0, x3 => (spec_DrawSpellIn.f k x0).bind fun bt1529 => ((impl_SpellIn.f bt1529.1 bt1529.2).bind fun bt1531 => (if bt1531.2.2.2 = true then ((impl_PitchOf.f bt1531.1 bt1531.2.1 bt1531.2.2.1).bind fun t1536 => (laws_FnKeys.j2 k x3 (t1536 != bt1529.2))) else (laws_FnKeys.j2 k x3 false)))
def laws_FnKeys.j2 : Nat → Int → Bool → Option (Bool)
 | 0, _, _ => none
 | k + 1, x3, x84 => if x84 = true then (some false) else (laws_FnKeys.l1 k x3 0 0)
def laws_FnKeys.l1 : Nat → Int → Int → Int → Option (Bool)
 | 0, _, _, _ => none
 | k + 1, x3, x15, x16 => if x16 < 7 then ((impl_AlterIn.f k x3 x16).bind fun t1537 => (laws_FnKeys.l1 k x3 (wrap64 (x15 + t1537)) (wrap64 (x16 + 1)))) else ((impl_IsKey.f x3).bind fun t1538 => ((impl_TonicOf.f x3).bind fun t1539 => (if (t1538 == (decide (t1539 ≥ 0))) = true then ((impl_IsKey.f x3).bind fun t1540 => (if t1540 = true then (some (x15 == x3)) else (some true))) else (some false))))
def laws_FnKeys.l0 : Nat → List Int → Int → Int → Int → Int → Int → Option (Bool)
 | 0, _, _, _, _, _, _ => none
 | k + 1, x0, x3, x5, x7, x1515000, x1515001 => if x7 < 7 then ((impl_AlterIn.f k x3 x7).bind fun t1517 => ((impl_MoveNote.f k x7 t1517 4 x1515000 x1515001).bind fun bt1519 => (if bt1519.2.2.2 = true then ((impl_IsInKey.f k x5 bt1519.1 bt1519.2.1 bt1519.2.2.1).bind fun t1524 => (if t1524 = true then ((impl_IsInKey.f k x3 x7 t1517 4).bind fun t1525 => (if t1525 = true then (laws_FnKeys.l0 k x0 x3 x5 (wrap64 (x7 + 1)) x1515000 x1515001) else (some false))) else (some false))) else ((impl_IsInKey.f k x3 x7 t1517 4).bind fun t1526 => (if t1526 = true then (laws_FnKeys.l0 k x0 x3 x5 (wrap64 (x7 + 1)) x1515000 x1515001) else (some false)))))) else ((impl_TonicOf.f x5).bind fun t1527 => (if t1527 < 0 then (some false) else ((impl_TonicOf.f x5).bind fun t1528 => (if t1528 > 11 then (some false) else (laws_FnKeys.j1 k x0 x3)))))
end
def laws_FnKeys.f (k : Nat) (l0 : List Int) : Option (Bool) := (laws_big.f l0).bind fun t1510 => (if t1510 = true then (some true) else ((spec_DrawMoveKey.f k l0).bind fun bt1511 => ((impl_MoveKey.f k bt1511.1 bt1511.2.1 bt1511.2.2).bind fun bt1515 => (if bt1515.2 = true then (laws_FnKeys.l0 k l0 bt1511.1 bt1515.1 0 bt1511.2.1 bt1511.2.2) else (laws_FnKeys.j1 k l0 bt1511.1)))))
set_option maxHeartbeats 8000000 in
set_option maxRecDepth 100000 in
theorem laws_FnKeys.calls (k : Nat) (A0 : Option Addr) (c0 : Nat) (l0 : List Int) (r : Bool) (w : World) (hr0 : Kd.C (Kd.int .u8) w A0 l0.length l0) (hc0 : l0.length ≤ c0) (h : laws_FnKeys.f k l0 = some r) :
  Calls Try.prog 14 #[.slice A0 l0.length c0] w fun e w' => e = .returned (.bool r) ∧ Below w.heap.size w w' := by
 have hu88 := Try.underlying88
 have hu64 := Try.underlying64
 have HR0 := Aside0.mk hr0
 have HC0 := Aside0.mk hc0
 clear hr0 hc0
 have HB := Aside0.mk (Below.refl w.heap.size w)
 have H : ((laws_big.f l0).bind fun t1510 => (if t1510 = true then (some true) else ((spec_DrawMoveKey.f k l0).bind fun bt1511 => ((impl_MoveKey.f k bt1511.1 bt1511.2.1 bt1511.2.2).bind fun bt1515 => (if bt1515.2 = true then (laws_FnKeys.l0 k l0 bt1511.1 bt1515.1 0 bt1511.2.1 bt1511.2.2) else (laws_FnKeys.j1 k l0 bt1511.1)))))) = some r := h
 clear h
 replace H := Option.bind_eq_some_iff.mp H
 obtain ⟨t1510, A20, H⟩ := H
 try dsimp only at H
 have A2 := Aside0.mk A20
 clear A20
 by_cases c3 : t1510 = true
 ·
  subst c3
  rw [if_pos rfl] at H
  obtain rfl := Option.some.inj H
  go_enter Try.func14, Try.ntmps14
  go_wp2_with (first | ((with_reducible refine gate_callee (f := 62) rfl ?_); refine goesL_ (some 18) rfl rfl Try.func62 (by kernel_rfl) rfl #[.slice A0 l0.length c0] rfl (by (try simp only [List.map_toArray, List.map_cons, List.map_nil]); first | done | rfl | (simp only [List.length_drop, List.length_take]; rfl)) ?_; (with_reducible refine (laws_big.calls _ _ l0 true _ ?side1 ?side2 A2.out).mono ?_); (case side1 => repeat (first | exact HR0.out | (with_reducible refine Kd.C_alloc ?_ _) | (with_reducible refine Kd.C_drewN ?_ _) | (with_reducible refine Kd.C_drew ?_))); (case side2 => exact HC0.out); rintro e w' ⟨rfl, ⟨nd, rfl⟩⟩; refine ⟨_, rfl, ?_⟩))
  go_ret
  exact ⟨by first | rfl | (simp [errW_none, errW_some] <;> rfl) | (simp [*, errW_none, errW_some] <;> rfl), by repeat (first | (with_reducible first | exact HB.out | apply below_alloc | apply pw_below_drewN | apply below_drew1) | exact HB.out)⟩
 ·
  replace c3 := Bool.eq_false_iff.mpr c3
  subst c3
  rw [if_neg (show ¬ (false = true) by decide)] at H
  replace H := Option.bind_eq_some_iff.mp H
  obtain ⟨⟨t1511, t1512, t1513⟩, A40, H⟩ := H
  try dsimp only at H
  have A4 := Aside0.mk A40
  clear A40
  replace H := Option.bind_eq_some_iff.mp H
  obtain ⟨⟨t1515, t1516⟩, A50, H⟩ := H
  try dsimp only at H
  have A5 := Aside0.mk A50
  clear A50
  have HC6 := Aside0.mk H
  clear H
  go_enter Try.func14, Try.ntmps14
  go_upto_if 30 with (first | ((with_reducible refine gate_callee (f := 62) rfl ?_); refine goesL_ (some 18) rfl rfl Try.func62 (by kernel_rfl) rfl #[.slice A0 l0.length c0] rfl (by (try simp only [List.map_toArray, List.map_cons, List.map_nil]); first | done | rfl | (simp only [List.length_drop, List.length_take]; rfl)) ?_; (with_reducible refine (laws_big.calls _ _ l0 false _ ?side1 ?side2 A2.out).mono ?_); (case side1 => repeat (first | exact HR0.out | (with_reducible refine Kd.C_alloc ?_ _) | (with_reducible refine Kd.C_drewN ?_ _) | (with_reducible refine Kd.C_drew ?_))); (case side2 => exact HC0.out); rintro e w' ⟨rfl, ⟨nd, rfl⟩⟩; refine ⟨_, rfl, ?_⟩) | ((with_reducible refine gate_callee (f := 71) rfl ?_); refine goesL_ (some 21) rfl rfl Try.func71 (by kernel_rfl) rfl #[.slice A0 l0.length c0] rfl (by (try simp only [List.map_toArray, List.map_cons, List.map_nil]); first | done | rfl | (simp only [List.length_drop, List.length_take]; rfl)) ?_; (with_reducible refine (spec_DrawMoveKey.calls k _ _ l0 t1511 t1512 t1513 _ ?side1 ?side2 A4.out).mono ?_); (case side1 => repeat (first | exact HR0.out | (with_reducible refine Kd.C_alloc ?_ _) | (with_reducible refine Kd.C_drewN ?_ _) | (with_reducible refine Kd.C_drew ?_))); (case side2 => exact HC0.out); rintro e w7 ⟨rfl, hb⟩; refine ⟨_, rfl, ?_⟩; have n0_ := Aside0.mk (below_step (by repeat (first | (with_reducible first | exact HB.out | apply below_alloc | apply pw_below_drewN | apply below_drew1) | exact HB.out)) hb); clear HB; have HB := n0_; clear n0_; (try clear hb); (try clear hb2); (try clear hk); (try clear hi)) | ((with_reducible refine gate_dst (N := 4) rfl ?_); refine box_event ?hg (N := 4) ?hd (cs := #[.int .i64 0, .int .i64 0]) (t := 88) ?hr ?_; (case hd => rfl); (case hg => rfl); (case hr => first | (go_simp; done) | (go_simp; rfl)); intro gb1514 hg w8 hbox hb; have n0_ := Aside0.mk (below_step (by repeat (first | (with_reducible first | exact HB.out | apply below_alloc | apply pw_below_drewN | apply below_drew1) | exact HB.out)) hb); have n1_ := Aside0.mk (hbox); have n2_ := Aside0.mk ((by rw [hg]; exact (below_size (by repeat (first | (with_reducible first | exact HB.out | apply below_alloc | apply pw_below_drewN | apply below_drew1) | exact HB.out))) : w.heap.size ≤ gb1514)); have n3_ := Aside0.mk ((by rw [hg]; exact (below_size (by repeat (first | (with_reducible first | exact HB.out | apply below_alloc | apply pw_below_drewN | apply below_drew1) | exact HB.out))) : w.heap.size ≤ gb1514)); clear HB; have HB := n0_; have BK1514 := n1_; have GW1514 := n2_; have GE1514 := n3_; clear n0_ n1_ n2_ n3_; clear hb hbox hg; have hcz9_0 : w8.cell? ⟨gb1514, 0, none⟩ = some (.int .i64 0) := (blk_cell BK1514.out 0).trans rfl; have hcz9_1 : w8.cell? ⟨gb1514, 1, none⟩ = some (.int .i64 0) := (blk_cell BK1514.out 1).trans rfl; have hfz9_0 := blk_frozen BK1514.out 0; have hfz9_1 := blk_frozen BK1514.out 1) | ((with_reducible refine gate_callee (f := 72) rfl ?_); refine goesL_ (some 27) rfl rfl Try.func72 (by kernel_rfl) rfl #[.int .i64 t1511, .agg #[.int .i64 t1512, .int .i64 t1513]] rfl (by (try simp only [List.map_toArray, List.map_cons, List.map_nil]); first | done | rfl | (simp only [List.length_drop, List.length_take]; rfl)) ?_; (with_reducible refine (impl_MoveKey.calls k t1511 t1512 t1513 t1515 t1516 _ A5.out).mono ?_); rintro e w10 ⟨rfl, hb⟩; refine ⟨_, rfl, ?_⟩; have n0_ := Aside0.mk (blk_below (g := gb1514) (o := .cells #[.int .i64 t1512, .int .i64 t1513] 88 (0, 0)) (by (with_reducible repeat (first | refine blk_drewN ?_ _ | refine blk_drew ?_ | refine blk_alloc ?_ _)); refine blk_put (cs := #[.int .i64 t1512, .int .i64 0]) ?_ 1 _ rfl; (with_reducible repeat (first | refine blk_drewN ?_ _ | refine blk_drew ?_ | refine blk_alloc ?_ _)); refine blk_put (cs := #[.int .i64 0, .int .i64 0]) ?_ 0 _ rfl; (with_reducible repeat (first | refine blk_drewN ?_ _ | refine blk_drew ?_ | refine blk_alloc ?_ _)); exact BK1514.out) hb); have n1_ := Aside0.mk (below_step (by repeat (first | (with_reducible first | exact HB.out | apply below_alloc | apply pw_below_drewN | apply below_drew1 | refine below_set ?_ GE1514.out) | exact HB.out)) hb); clear BK1514; clear HB; have BK1514 := n0_; have HB := n1_; clear n0_ n1_; (try clear hb); (try clear hb2); (try clear hk); (try clear hi)))
  (try simp only [Act.put, List.setIfInBounds_toArray, List.set_cons_zero, List.set_cons_succ])
  go_cut [] (fun wc => ∃ (kq : Nat), Aside0 (laws_FnKeys.j1 kq l0 t1511 = some r) ∧ Aside0 (kq ≤ k) ∧ Aside0 (wc.heap[gb1514]? = some (.cells #[.int .i64 t1512, .int .i64 t1513] 88 (0, 0))) ∧ Aside0 (Below w.heap.size w wc))
  case first =>
   have H := HC6.out
   clear HC6
   by_cases c11 : t1516 = true
   ·
    subst c11
    rw [if_pos rfl] at H
    have H' := Aside0.mk H
    clear H
    go_wp2
    go_loopg [7] k (fun kq v7 w' => ∃ (x7_1 : Int), v7 = .int .i64 x7_1 ∧ Aside0 (laws_FnKeys.l0 kq l0 t1511 t1515 x7_1 t1512 t1513 = some r) ∧ Aside0 (kq ≤ k) ∧ Aside0 (w'.heap[gb1514]? = some (.cells #[.int .i64 t1512, .int .i64 t1513] 88 (0, 0))) ∧ Aside0 (Below w.heap.size w w'))
    case atStart => exact ⟨(0), (by first | rfl | (simp; done) | (simp [*]; done)), H', ⟨Nat.le_refl _⟩, ⟨by (with_reducible repeat (first | refine blk_drewN ?_ _ | refine blk_drew ?_ | refine blk_alloc ?_ _)); exact BK1514.out⟩, ⟨by repeat (first | (with_reducible first | exact HB.out | apply below_alloc | apply pw_below_drewN | apply below_drew1 | refine below_set ?_ GE1514.out) | exact HB.out)⟩⟩
    case round =>
     clear H'
     try clear c1
     try clear p2
     try clear c3
     try clear c6
     try clear c7
     try clear c11
     try clear hcz9_0
     try clear hcz9_1
     try clear hfz9_0
     try clear hfz9_1
     obtain ⟨x7_1, rfl, HA, HK1, BK1514, HB⟩ := hrel
     cases gk with
     | zero => exact absurd HA.out (by simp [laws_FnKeys.l0])
     | succ k1 =>
      have H := HA.out
      clear HA
      simp only [laws_FnKeys.l0] at H
      by_cases c12 : x7_1 < 7
      ·
       rw [if_pos c12] at H
       have c12b0 : decide (x7_1 < 7) = true := decide_eq_true c12
       clear c12
       (first | rw [c12b0] | (simp only [i64_w, i32_w]; rw [c12b0]) | skip)
       replace H := Option.bind_eq_some_iff.mp H
       obtain ⟨t1517, A130, H⟩ := H
       try dsimp only at H
       have A13 := Aside0.mk A130
       clear A130
       replace H := Option.bind_eq_some_iff.mp H
       obtain ⟨⟨t1519, t1520, t1521, t1522⟩, A140, H⟩ := H
       try dsimp only at H
       have A14 := Aside0.mk A140
       clear A140
       by_cases c15 : t1522 = true
       ·
        subst c15
        rw [if_pos rfl] at H
        replace H := Option.bind_eq_some_iff.mp H
        obtain ⟨t1524, A160, H⟩ := H
        try dsimp only at H
        have A16 := Aside0.mk A160
        clear A160
        by_cases c17 : t1524 = true
        ·
         subst c17
         rw [if_pos rfl] at H
         replace H := Option.bind_eq_some_iff.mp H
         obtain ⟨t1525, A180, H⟩ := H
         try dsimp only at H
         have A18 := Aside0.mk A180
         clear A180
         by_cases c19 : t1525 = true
         ·
          subst c19
          rw [if_pos rfl] at H
          have H' := Aside0.mk H
          clear H
          go_wp2_with (first | ((with_reducible refine gate_callee (f := 73) rfl ?_); refine goesL_ (some 38) rfl rfl Try.func73 (by kernel_rfl) rfl #[.int .i64 t1511, .int .i64 x7_1] rfl (by (try simp only [List.map_toArray, List.map_cons, List.map_nil]); first | done | rfl | (simp only [List.length_drop, List.length_take]; rfl)) ?_; (with_reducible refine (impl_AlterIn.calls k1 t1511 x7_1 t1517 _ A13.out).mono ?_); rintro e w20 ⟨rfl, hb⟩; refine ⟨_, rfl, ?_⟩; have n0_ := Aside0.mk (blk_below (g := gb1514) (o := .cells #[.int .i64 t1512, .int .i64 t1513] 88 (0, 0)) (by (with_reducible repeat (first | refine blk_drewN ?_ _ | refine blk_drew ?_ | refine blk_alloc ?_ _)); exact BK1514.out) hb); have n1_ := Aside0.mk (below_step (by repeat (first | (with_reducible first | exact HB.out | apply below_alloc | apply pw_below_drewN | apply below_drew1 | refine below_set ?_ GE1514.out) | exact HB.out)) hb); clear BK1514; clear HB; have BK1514 := n0_; have HB := n1_; clear n0_ n1_; (try clear hb); (try clear hb2); (try clear hk); (try clear hi)) | ((with_reducible refine gate_dst (N := 8) rfl ?_); refine box_event ?hg (N := 8) ?hd (cs := #[.int .i64 0, .int .i64 0, .int .i64 0]) (t := 64) ?hr ?_; (case hd => rfl); (case hg => rfl); (case hr => first | (go_simp; done) | (go_simp; rfl)); intro gb1518 hg w21 hbox hb; have n0_ := Aside0.mk (blk_below (g := gb1514) (o := .cells #[.int .i64 t1512, .int .i64 t1513] 88 (0, 0)) (by (with_reducible repeat (first | refine blk_drewN ?_ _ | refine blk_drew ?_ | refine blk_alloc ?_ _)); exact BK1514.out) hb); have n1_ := Aside0.mk (below_step (by repeat (first | (with_reducible first | exact HB.out | apply below_alloc | apply pw_below_drewN | apply below_drew1 | refine below_set ?_ GE1514.out) | exact HB.out)) hb); have n2_ := Aside0.mk (hbox); have n3_ := Aside0.mk ((by rw [hg]; exact (below_size (by repeat (first | (with_reducible first | exact HB.out | apply below_alloc | apply pw_below_drewN | apply below_drew1 | refine below_set ?_ GE1514.out) | exact HB.out))) : w.heap.size ≤ gb1518)); have n4_ := Aside0.mk ((by rw [hg]; exact (below_size (by repeat (first | (with_reducible first | exact HB.out | apply below_alloc | apply pw_below_drewN | apply below_drew1 | refine below_set ?_ GE1514.out) | exact HB.out))) : w.heap.size ≤ gb1518)); have n5_ := Aside0.mk ((by rw [hg]; exact Nat.ne_of_lt (blk_lt (g := gb1514) (o := .cells #[.int .i64 t1512, .int .i64 t1513] 88 (0, 0)) (by (with_reducible repeat (first | refine blk_drewN ?_ _ | refine blk_drew ?_ | refine blk_alloc ?_ _)); exact BK1514.out)) : gb1514 ≠ gb1518)); have n6_ := Aside0.mk ((by rw [hg]; exact Nat.ne_of_gt (blk_lt (g := gb1514) (o := .cells #[.int .i64 t1512, .int .i64 t1513] 88 (0, 0)) (by (with_reducible repeat (first | refine blk_drewN ?_ _ | refine blk_drew ?_ | refine blk_alloc ?_ _)); exact BK1514.out)) : gb1518 ≠ gb1514)); clear BK1514; clear HB; have BK1514 := n0_; have HB := n1_; have BK1518 := n2_; have GW1518 := n3_; have GE1518 := n4_; have NB1514_1518 := n5_; have NB1518_1514 := n6_; clear n0_ n1_ n2_ n3_ n4_ n5_ n6_; clear hb hbox hg; have hnb22 := NB1518_1514.out; have hnc22 := NB1514_1518.out; have hcz23_0 : w21.cell? ⟨gb1518, 0, none⟩ = some (.int .i64 0) := (blk_cell BK1518.out 0).trans rfl; have hcz23_1 : w21.cell? ⟨gb1518, 1, none⟩ = some (.int .i64 0) := (blk_cell BK1518.out 1).trans rfl; have hcz23_2 : w21.cell? ⟨gb1518, 2, none⟩ = some (.int .i64 0) := (blk_cell BK1518.out 2).trans rfl; have hfz23_0 := blk_frozen BK1518.out 0; have hfz23_1 := blk_frozen BK1518.out 1; have hfz23_2 := blk_frozen BK1518.out 2; have hcz24_0 : w21.cell? ⟨gb1514, 0, none⟩ = some (.int .i64 t1512) := (blk_cell BK1514.out 0).trans rfl; have hcz24_1 : w21.cell? ⟨gb1514, 1, none⟩ = some (.int .i64 t1513) := (blk_cell BK1514.out 1).trans rfl; have hfz24_0 := blk_frozen BK1514.out 0; have hfz24_1 := blk_frozen BK1514.out 1) | ((with_reducible refine gate_callee (f := 74) rfl ?_); refine goesL_ (some 43) rfl rfl Try.func74 (by kernel_rfl) rfl #[.agg #[.int .i64 x7_1, .int .i64 t1517, .int .i64 4], .agg #[.int .i64 t1512, .int .i64 t1513]] rfl (by (try simp only [List.map_toArray, List.map_cons, List.map_nil]); first | done | rfl | (simp only [List.length_drop, List.length_take]; rfl)) ?_; (with_reducible refine (impl_MoveNote.calls k1 x7_1 t1517 4 t1512 t1513 t1519 t1520 t1521 true _ A14.out).mono ?_); rintro e w25 ⟨rfl, hb⟩; refine ⟨_, rfl, ?_⟩; have n0_ := Aside0.mk (blk_below (g := gb1514) (o := .cells #[.int .i64 t1512, .int .i64 t1513] 88 (0, 0)) (by (with_reducible repeat (first | refine blk_drewN ?_ _ | refine blk_drew ?_ | refine blk_alloc ?_ _)); refine blk_far ?_ NB1514_1518.out _; (with_reducible repeat (first | refine blk_drewN ?_ _ | refine blk_drew ?_ | refine blk_alloc ?_ _)); refine blk_far ?_ NB1514_1518.out _; (with_reducible repeat (first | refine blk_drewN ?_ _ | refine blk_drew ?_ | refine blk_alloc ?_ _)); refine blk_far ?_ NB1514_1518.out _; (with_reducible repeat (first | refine blk_drewN ?_ _ | refine blk_drew ?_ | refine blk_alloc ?_ _)); exact BK1514.out) hb); have n1_ := Aside0.mk (blk_below (g := gb1518) (o := .cells #[.int .i64 x7_1, .int .i64 t1517, .int .i64 4] 64 (0, 0)) (by (with_reducible repeat (first | refine blk_drewN ?_ _ | refine blk_drew ?_ | refine blk_alloc ?_ _)); refine blk_put (cs := #[.int .i64 x7_1, .int .i64 t1517, .int .i64 0]) ?_ 2 _ rfl; (with_reducible repeat (first | refine blk_drewN ?_ _ | refine blk_drew ?_ | refine blk_alloc ?_ _)); refine blk_put (cs := #[.int .i64 x7_1, .int .i64 0, .int .i64 0]) ?_ 1 _ rfl; (with_reducible repeat (first | refine blk_drewN ?_ _ | refine blk_drew ?_ | refine blk_alloc ?_ _)); refine blk_put (cs := #[.int .i64 0, .int .i64 0, .int .i64 0]) ?_ 0 _ rfl; (with_reducible repeat (first | refine blk_drewN ?_ _ | refine blk_drew ?_ | refine blk_alloc ?_ _)); exact BK1518.out) hb); have n2_ := Aside0.mk (below_step (by repeat (first | (with_reducible first | exact HB.out | apply below_alloc | apply pw_below_drewN | apply below_drew1 | refine below_set ?_ GE1514.out | refine below_set ?_ GE1518.out) | exact HB.out)) hb); clear BK1514; clear BK1518; clear HB; have BK1514 := n0_; have BK1518 := n1_; have HB := n2_; clear n0_ n1_ n2_; (try clear hb); (try clear hb2); (try clear hk); (try clear hi)) | ((with_reducible refine gate_dst (N := 9) rfl ?_); refine box_event ?hg (N := 9) ?hd (cs := #[.int .i64 0, .int .i64 0, .int .i64 0]) (t := 64) ?hr ?_; (case hd => rfl); (case hg => rfl); (case hr => first | (go_simp; done) | (go_simp; rfl)); intro gb1523 hg w26 hbox hb; have n0_ := Aside0.mk (blk_below (g := gb1514) (o := .cells #[.int .i64 t1512, .int .i64 t1513] 88 (0, 0)) (by (with_reducible repeat (first | refine blk_drewN ?_ _ | refine blk_drew ?_ | refine blk_alloc ?_ _)); exact BK1514.out) hb); have n1_ := Aside0.mk (blk_below (g := gb1518) (o := .cells #[.int .i64 x7_1, .int .i64 t1517, .int .i64 4] 64 (0, 0)) (by (with_reducible repeat (first | refine blk_drewN ?_ _ | refine blk_drew ?_ | refine blk_alloc ?_ _)); exact BK1518.out) hb); have n2_ := Aside0.mk (below_step (by repeat (first | (with_reducible first | exact HB.out | apply below_alloc | apply pw_below_drewN | apply below_drew1 | refine below_set ?_ GE1514.out | refine below_set ?_ GE1518.out) | exact HB.out)) hb); have n3_ := Aside0.mk (hbox); have n4_ := Aside0.mk ((by rw [hg]; exact (below_size (by repeat (first | (with_reducible first | exact HB.out | apply below_alloc | apply pw_below_drewN | apply below_drew1 | refine below_set ?_ GE1514.out | refine below_set ?_ GE1518.out) | exact HB.out))) : w.heap.size ≤ gb1523)); have n5_ := Aside0.mk ((by rw [hg]; exact (below_size (by repeat (first | (with_reducible first | exact HB.out | apply below_alloc | apply pw_below_drewN | apply below_drew1 | refine below_set ?_ GE1514.out | refine below_set ?_ GE1518.out) | exact HB.out))) : w.heap.size ≤ gb1523)); have n6_ := Aside0.mk ((by rw [hg]; exact Nat.ne_of_lt (blk_lt (g := gb1514) (o := .cells #[.int .i64 t1512, .int .i64 t1513] 88 (0, 0)) (by (with_reducible repeat (first | refine blk_drewN ?_ _ | refine blk_drew ?_ | refine blk_alloc ?_ _)); exact BK1514.out)) : gb1514 ≠ gb1523)); have n7_ := Aside0.mk ((by rw [hg]; exact Nat.ne_of_gt (blk_lt (g := gb1514) (o := .cells #[.int .i64 t1512, .int .i64 t1513] 88 (0, 0)) (by (with_reducible repeat (first | refine blk_drewN ?_ _ | refine blk_drew ?_ | refine blk_alloc ?_ _)); exact BK1514.out)) : gb1523 ≠ gb1514)); have n8_ := Aside0.mk ((by rw [hg]; exact Nat.ne_of_lt (blk_lt (g := gb1518) (o := .cells #[.int .i64 x7_1, .int .i64 t1517, .int .i64 4] 64 (0, 0)) (by (with_reducible repeat (first | refine blk_drewN ?_ _ | refine blk_drew ?_ | refine blk_alloc ?_ _)); exact BK1518.out)) : gb1518 ≠ gb1523)); have n9_ := Aside0.mk ((by rw [hg]; exact Nat.ne_of_gt (blk_lt (g := gb1518) (o := .cells #[.int .i64 x7_1, .int .i64 t1517, .int .i64 4] 64 (0, 0)) (by (with_reducible repeat (first | refine blk_drewN ?_ _ | refine blk_drew ?_ | refine blk_alloc ?_ _)); exact BK1518.out)) : gb1523 ≠ gb1518)); clear BK1514; clear BK1518; clear HB; have BK1514 := n0_; have BK1518 := n1_; have HB := n2_; have BK1523 := n3_; have GW1523 := n4_; have GE1523 := n5_; have NB1514_1523 := n6_; have NB1523_1514 := n7_; have NB1518_1523 := n8_; have NB1523_1518 := n9_; clear n0_ n1_ n2_ n3_ n4_ n5_ n6_ n7_ n8_ n9_; clear hb hbox hg; have hnb27 := NB1523_1514.out; have hnc27 := NB1514_1523.out; have hnb28 := NB1523_1518.out; have hnc28 := NB1518_1523.out; have hcz29_0 : w26.cell? ⟨gb1523, 0, none⟩ = some (.int .i64 0) := (blk_cell BK1523.out 0).trans rfl; have hcz29_1 : w26.cell? ⟨gb1523, 1, none⟩ = some (.int .i64 0) := (blk_cell BK1523.out 1).trans rfl; have hcz29_2 : w26.cell? ⟨gb1523, 2, none⟩ = some (.int .i64 0) := (blk_cell BK1523.out 2).trans rfl; have hfz29_0 := blk_frozen BK1523.out 0; have hfz29_1 := blk_frozen BK1523.out 1; have hfz29_2 := blk_frozen BK1523.out 2) | (go_at_call 75; (with_reducible refine (impl_IsInKey.calls k1 t1515 t1519 t1520 t1521 true _ A16.out).mono ?_); rintro e w30 ⟨rfl, hb⟩; have n0_ := Aside0.mk (blk_below (g := gb1514) (o := .cells #[.int .i64 t1512, .int .i64 t1513] 88 (0, 0)) (by (with_reducible repeat (first | refine blk_drewN ?_ _ | refine blk_drew ?_ | refine blk_alloc ?_ _)); refine blk_far ?_ NB1514_1523.out _; (with_reducible repeat (first | refine blk_drewN ?_ _ | refine blk_drew ?_ | refine blk_alloc ?_ _)); refine blk_far ?_ NB1514_1523.out _; (with_reducible repeat (first | refine blk_drewN ?_ _ | refine blk_drew ?_ | refine blk_alloc ?_ _)); refine blk_far ?_ NB1514_1523.out _; (with_reducible repeat (first | refine blk_drewN ?_ _ | refine blk_drew ?_ | refine blk_alloc ?_ _)); exact BK1514.out) hb); have n1_ := Aside0.mk (blk_below (g := gb1518) (o := .cells #[.int .i64 x7_1, .int .i64 t1517, .int .i64 4] 64 (0, 0)) (by (with_reducible repeat (first | refine blk_drewN ?_ _ | refine blk_drew ?_ | refine blk_alloc ?_ _)); refine blk_far ?_ NB1518_1523.out _; (with_reducible repeat (first | refine blk_drewN ?_ _ | refine blk_drew ?_ | refine blk_alloc ?_ _)); refine blk_far ?_ NB1518_1523.out _; (with_reducible repeat (first | refine blk_drewN ?_ _ | refine blk_drew ?_ | refine blk_alloc ?_ _)); refine blk_far ?_ NB1518_1523.out _; (with_reducible repeat (first | refine blk_drewN ?_ _ | refine blk_drew ?_ | refine blk_alloc ?_ _)); exact BK1518.out) hb); have n2_ := Aside0.mk (blk_below (g := gb1523) (o := .cells #[.int .i64 t1519, .int .i64 t1520, .int .i64 t1521] 64 (0, 0)) (by (with_reducible repeat (first | refine blk_drewN ?_ _ | refine blk_drew ?_ | refine blk_alloc ?_ _)); refine blk_put (cs := #[.int .i64 t1519, .int .i64 t1520, .int .i64 0]) ?_ 2 _ rfl; (with_reducible repeat (first | refine blk_drewN ?_ _ | refine blk_drew ?_ | refine blk_alloc ?_ _)); refine blk_put (cs := #[.int .i64 t1519, .int .i64 0, .int .i64 0]) ?_ 1 _ rfl; (with_reducible repeat (first | refine blk_drewN ?_ _ | refine blk_drew ?_ | refine blk_alloc ?_ _)); refine blk_put (cs := #[.int .i64 0, .int .i64 0, .int .i64 0]) ?_ 0 _ rfl; (with_reducible repeat (first | refine blk_drewN ?_ _ | refine blk_drew ?_ | refine blk_alloc ?_ _)); exact BK1523.out) hb); have n3_ := Aside0.mk (below_step (by repeat (first | (with_reducible first | exact HB.out | apply below_alloc | apply pw_below_drewN | apply below_drew1 | refine below_set ?_ GE1514.out | refine below_set ?_ GE1518.out | refine below_set ?_ GE1523.out) | exact HB.out)) hb); clear BK1514; clear BK1518; clear BK1523; clear HB; have BK1514 := n0_; have BK1518 := n1_; have BK1523 := n2_; have HB := n3_; clear n0_ n1_ n2_ n3_; (try clear hb); (try clear hb2); (try clear hk); (try clear hi); have hcz31_0 : w30.cell? ⟨gb1518, 0, none⟩ = some (.int .i64 x7_1) := (blk_cell BK1518.out 0).trans rfl; have hcz31_1 : w30.cell? ⟨gb1518, 1, none⟩ = some (.int .i64 t1517) := (blk_cell BK1518.out 1).trans rfl; have hcz31_2 : w30.cell? ⟨gb1518, 2, none⟩ = some (.int .i64 4) := (blk_cell BK1518.out 2).trans rfl; have hfz31_0 := blk_frozen BK1518.out 0; have hfz31_1 := blk_frozen BK1518.out 1; have hfz31_2 := blk_frozen BK1518.out 2) | (go_at_call 75; (with_reducible refine (impl_IsInKey.calls k1 t1511 x7_1 t1517 4 true _ A18.out).mono ?_); rintro e w32 ⟨rfl, hb⟩; have n0_ := Aside0.mk (blk_below (g := gb1514) (o := .cells #[.int .i64 t1512, .int .i64 t1513] 88 (0, 0)) (by (with_reducible repeat (first | refine blk_drewN ?_ _ | refine blk_drew ?_ | refine blk_alloc ?_ _)); exact BK1514.out) hb); have n1_ := Aside0.mk (blk_below (g := gb1518) (o := .cells #[.int .i64 x7_1, .int .i64 t1517, .int .i64 4] 64 (0, 0)) (by (with_reducible repeat (first | refine blk_drewN ?_ _ | refine blk_drew ?_ | refine blk_alloc ?_ _)); exact BK1518.out) hb); have n2_ := Aside0.mk (blk_below (g := gb1523) (o := .cells #[.int .i64 t1519, .int .i64 t1520, .int .i64 t1521] 64 (0, 0)) (by (with_reducible repeat (first | refine blk_drewN ?_ _ | refine blk_drew ?_ | refine blk_alloc ?_ _)); exact BK1523.out) hb); have n3_ := Aside0.mk (below_step (by repeat (first | (with_reducible first | exact HB.out | apply below_alloc | apply pw_below_drewN | apply below_drew1 | refine below_set ?_ GE1514.out | refine below_set ?_ GE1518.out | refine below_set ?_ GE1523.out) | exact HB.out)) hb); clear BK1514; clear BK1518; clear BK1523; clear HB; have BK1514 := n0_; have BK1518 := n1_; have BK1523 := n2_; have HB := n3_; clear n0_ n1_ n2_ n3_; (try clear hb); (try clear hb2); (try clear hk); (try clear hi)))
          go_roundg k1
          case measure => have := HK1.out; omega
          case rel => exact ⟨(wrap64 (x7_1 + 1)), (by first | rfl | (simp; done) | (simp [*]; done)), H', ⟨by have := HK1.out; omega⟩, ⟨by (with_reducible repeat (first | refine blk_drewN ?_ _ | refine blk_drew ?_ | refine blk_alloc ?_ _)); exact BK1514.out⟩, ⟨by repeat (first | (with_reducible first | exact HB.out | apply below_alloc | apply pw_below_drewN | apply below_drew1 | refine below_set ?_ GE1514.out | refine below_set ?_ GE1518.out | refine below_set ?_ GE1523.out) | exact HB.out)⟩⟩
         ·
          replace c19 := Bool.eq_false_iff.mpr c19
          subst c19
          rw [if_neg (show ¬ (false = true) by decide)] at H
          obtain rfl := Option.some.inj H
          go_wp2_with (first | ((with_reducible refine gate_callee (f := 73) rfl ?_); refine goesL_ (some 38) rfl rfl Try.func73 (by kernel_rfl) rfl #[.int .i64 t1511, .int .i64 x7_1] rfl (by (try simp only [List.map_toArray, List.map_cons, List.map_nil]); first | done | rfl | (simp only [List.length_drop, List.length_take]; rfl)) ?_; (with_reducible refine (impl_AlterIn.calls k1 t1511 x7_1 t1517 _ A13.out).mono ?_); rintro e w33 ⟨rfl, hb⟩; refine ⟨_, rfl, ?_⟩; have n0_ := Aside0.mk (blk_below (g := gb1514) (o := .cells #[.int .i64 t1512, .int .i64 t1513] 88 (0, 0)) (by (with_reducible repeat (first | refine blk_drewN ?_ _ | refine blk_drew ?_ | refine blk_alloc ?_ _)); exact BK1514.out) hb); have n1_ := Aside0.mk (below_step (by repeat (first | (with_reducible first | exact HB.out | apply below_alloc | apply pw_below_drewN | apply below_drew1 | refine below_set ?_ GE1514.out) | exact HB.out)) hb); clear BK1514; clear HB; have BK1514 := n0_; have HB := n1_; clear n0_ n1_; (try clear hb); (try clear hb2); (try clear hk); (try clear hi)) | ((with_reducible refine gate_dst (N := 8) rfl ?_); refine box_event ?hg (N := 8) ?hd (cs := #[.int .i64 0, .int .i64 0, .int .i64 0]) (t := 64) ?hr ?_; (case hd => rfl); (case hg => rfl); (case hr => first | (go_simp; done) | (go_simp; rfl)); intro gb1518 hg w34 hbox hb; have n0_ := Aside0.mk (blk_below (g := gb1514) (o := .cells #[.int .i64 t1512, .int .i64 t1513] 88 (0, 0)) (by (with_reducible repeat (first | refine blk_drewN ?_ _ | refine blk_drew ?_ | refine blk_alloc ?_ _)); exact BK1514.out) hb); have n1_ := Aside0.mk (below_step (by repeat (first | (with_reducible first | exact HB.out | apply below_alloc | apply pw_below_drewN | apply below_drew1 | refine below_set ?_ GE1514.out) | exact HB.out)) hb); have n2_ := Aside0.mk (hbox); have n3_ := Aside0.mk ((by rw [hg]; exact (below_size (by repeat (first | (with_reducible first | exact HB.out | apply below_alloc | apply pw_below_drewN | apply below_drew1 | refine below_set ?_ GE1514.out) | exact HB.out))) : w.heap.size ≤ gb1518)); have n4_ := Aside0.mk ((by rw [hg]; exact (below_size (by repeat (first | (with_reducible first | exact HB.out | apply below_alloc | apply pw_below_drewN | apply below_drew1 | refine below_set ?_ GE1514.out) | exact HB.out))) : w.heap.size ≤ gb1518)); have n5_ := Aside0.mk ((by rw [hg]; exact Nat.ne_of_lt (blk_lt (g := gb1514) (o := .cells #[.int .i64 t1512, .int .i64 t1513] 88 (0, 0)) (by (with_reducible repeat (first | refine blk_drewN ?_ _ | refine blk_drew ?_ | refine blk_alloc ?_ _)); exact BK1514.out)) : gb1514 ≠ gb1518)); have n6_ := Aside0.mk ((by rw [hg]; exact Nat.ne_of_gt (blk_lt (g := gb1514) (o := .cells #[.int .i64 t1512, .int .i64 t1513] 88 (0, 0)) (by (with_reducible repeat (first | refine blk_drewN ?_ _ | refine blk_drew ?_ | refine blk_alloc ?_ _)); exact BK1514.out)) : gb1518 ≠ gb1514)); clear BK1514; clear HB; have BK1514 := n0_; have HB := n1_; have BK1518 := n2_; have GW1518 := n3_; have GE1518 := n4_; have NB1514_1518 := n5_; have NB1518_1514 := n6_; clear n0_ n1_ n2_ n3_ n4_ n5_ n6_; clear hb hbox hg; have hnb35 := NB1518_1514.out; have hnc35 := NB1514_1518.out; have hcz36_0 : w34.cell? ⟨gb1518, 0, none⟩ = some (.int .i64 0) := (blk_cell BK1518.out 0).trans rfl; have hcz36_1 : w34.cell? ⟨gb1518, 1, none⟩ = some (.int .i64 0) := (blk_cell BK1518.out 1).trans rfl; have hcz36_2 : w34.cell? ⟨gb1518, 2, none⟩ = some (.int .i64 0) := (blk_cell BK1518.out 2).trans rfl; have hfz36_0 := blk_frozen BK1518.out 0; have hfz36_1 := blk_frozen BK1518.out 1; have hfz36_2 := blk_frozen BK1518.out 2; have hcz37_0 : w34.cell? ⟨gb1514, 0, none⟩ = some (.int .i64 t1512) := (blk_cell BK1514.out 0).trans rfl; have hcz37_1 : w34.cell? ⟨gb1514, 1, none⟩ = some (.int .i64 t1513) := (blk_cell BK1514.out 1).trans rfl; have hfz37_0 := blk_frozen BK1514.out 0; have hfz37_1 := blk_frozen BK1514.out 1) | ((with_reducible refine gate_callee (f := 74) rfl ?_); refine goesL_ (some 43) rfl rfl Try.func74 (by kernel_rfl) rfl #[.agg #[.int .i64 x7_1, .int .i64 t1517, .int .i64 4], .agg #[.int .i64 t1512, .int .i64 t1513]] rfl (by (try simp only [List.map_toArray, List.map_cons, List.map_nil]); first | done | rfl | (simp only [List.length_drop, List.length_take]; rfl)) ?_; (with_reducible refine (impl_MoveNote.calls k1 x7_1 t1517 4 t1512 t1513 t1519 t1520 t1521 true _ A14.out).mono ?_); rintro e w38 ⟨rfl, hb⟩; refine ⟨_, rfl, ?_⟩; have n0_ := Aside0.mk (blk_below (g := gb1514) (o := .cells #[.int .i64 t1512, .int .i64 t1513] 88 (0, 0)) (by (with_reducible repeat (first | refine blk_drewN ?_ _ | refine blk_drew ?_ | refine blk_alloc ?_ _)); refine blk_far ?_ NB1514_1518.out _; (with_reducible repeat (first | refine blk_drewN ?_ _ | refine blk_drew ?_ | refine blk_alloc ?_ _)); refine blk_far ?_ NB1514_1518.out _; (with_reducible repeat (first | refine blk_drewN ?_ _ | refine blk_drew ?_ | refine blk_alloc ?_ _)); refine blk_far ?_ NB1514_1518.out _; (with_reducible repeat (first | refine blk_drewN ?_ _ | refine blk_drew ?_ | refine blk_alloc ?_ _)); exact BK1514.out) hb); have n1_ := Aside0.mk (blk_below (g := gb1518) (o := .cells #[.int .i64 x7_1, .int .i64 t1517, .int .i64 4] 64 (0, 0)) (by (with_reducible repeat (first | refine blk_drewN ?_ _ | refine blk_drew ?_ | refine blk_alloc ?_ _)); refine blk_put (cs := #[.int .i64 x7_1, .int .i64 t1517, .int .i64 0]) ?_ 2 _ rfl; (with_reducible repeat (first | refine blk_drewN ?_ _ | refine blk_drew ?_ | refine blk_alloc ?_ _)); refine blk_put (cs := #[.int .i64 x7_1, .int .i64 0, .int .i64 0]) ?_ 1 _ rfl; (with_reducible repeat (first | refine blk_drewN ?_ _ | refine blk_drew ?_ | refine blk_alloc ?_ _)); refine blk_put (cs := #[.int .i64 0, .int .i64 0, .int .i64 0]) ?_ 0 _ rfl; (with_reducible repeat (first | refine blk_drewN ?_ _ | refine blk_drew ?_ | refine blk_alloc ?_ _)); exact BK1518.out) hb); have n2_ := Aside0.mk (below_step (by repeat (first | (with_reducible first | exact HB.out | apply below_alloc | apply pw_below_drewN | apply below_drew1 | refine below_set ?_ GE1514.out | refine below_set ?_ GE1518.out) | exact HB.out)) hb); clear BK1514; clear BK1518; clear HB; have BK1514 := n0_; have BK1518 := n1_; have HB := n2_; clear n0_ n1_ n2_; (try clear hb); (try clear hb2); (try clear hk); (try clear hi)) | ((with_reducible refine gate_dst (N := 9) rfl ?_); refine box_event ?hg (N := 9) ?hd (cs := #[.int .i64 0, .int .i64 0, .int .i64 0]) (t := 64) ?hr ?_; (case hd => rfl); (case hg => rfl); (case hr => first | (go_simp; done) | (go_simp; rfl)); intro gb1523 hg w39 hbox hb; have n0_ := Aside0.mk (blk_below (g := gb1514) (o := .cells #[.int .i64 t1512, .int .i64 t1513] 88 (0, 0)) (by (with_reducible repeat (first | refine blk_drewN ?_ _ | refine blk_drew ?_ | refine blk_alloc ?_ _)); exact BK1514.out) hb); have n1_ := Aside0.mk (blk_below (g := gb1518) (o := .cells #[.int .i64 x7_1, .int .i64 t1517, .int .i64 4] 64 (0, 0)) (by (with_reducible repeat (first | refine blk_drewN ?_ _ | refine blk_drew ?_ | refine blk_alloc ?_ _)); exact BK1518.out) hb); have n2_ := Aside0.mk (below_step (by repeat (first | (with_reducible first | exact HB.out | apply below_alloc | apply pw_below_drewN | apply below_drew1 | refine below_set ?_ GE1514.out | refine below_set ?_ GE1518.out) | exact HB.out)) hb); have n3_ := Aside0.mk (hbox); have n4_ := Aside0.mk ((by rw [hg]; exact (below_size (by repeat (first | (with_reducible first | exact HB.out | apply below_alloc | apply pw_below_drewN | apply below_drew1 | refine below_set ?_ GE1514.out | refine below_set ?_ GE1518.out) | exact HB.out))) : w.heap.size ≤ gb1523)); have n5_ := Aside0.mk ((by rw [hg]; exact (below_size (by repeat (first | (with_reducible first | exact HB.out | apply below_alloc | apply pw_below_drewN | apply below_drew1 | refine below_set ?_ GE1514.out | refine below_set ?_ GE1518.out) | exact HB.out))) : w.heap.size ≤ gb1523)); have n6_ := Aside0.mk ((by rw [hg]; exact Nat.ne_of_lt (blk_lt (g := gb1514) (o := .cells #[.int .i64 t1512, .int .i64 t1513] 88 (0, 0)) (by (with_reducible repeat (first | refine blk_drewN ?_ _ | refine blk_drew ?_ | refine blk_alloc ?_ _)); exact BK1514.out)) : gb1514 ≠ gb1523)); have n7_ := Aside0.mk ((by rw [hg]; exact Nat.ne_of_gt (blk_lt (g := gb1514) (o := .cells #[.int .i64 t1512, .int .i64 t1513] 88 (0, 0)) (by (with_reducible repeat (first | refine blk_drewN ?_ _ | refine blk_drew ?_ | refine blk_alloc ?_ _)); exact BK1514.out)) : gb1523 ≠ gb1514)); have n8_ := Aside0.mk ((by rw [hg]; exact Nat.ne_of_lt (blk_lt (g := gb1518) (o := .cells #[.int .i64 x7_1, .int .i64 t1517, .int .i64 4] 64 (0, 0)) (by (with_reducible repeat (first | refine blk_drewN ?_ _ | refine blk_drew ?_ | refine blk_alloc ?_ _)); exact BK1518.out)) : gb1518 ≠ gb1523)); have n9_ := Aside0.mk ((by rw [hg]; exact Nat.ne_of_gt (blk_lt (g := gb1518) (o := .cells #[.int .i64 x7_1, .int .i64 t1517, .int .i64 4] 64 (0, 0)) (by (with_reducible repeat (first | refine blk_drewN ?_ _ | refine blk_drew ?_ | refine blk_alloc ?_ _)); exact BK1518.out)) : gb1523 ≠ gb1518)); clear BK1514; clear BK1518; clear HB; have BK1514 := n0_; have BK1518 := n1_; have HB := n2_; have BK1523 := n3_; have GW1523 := n4_; have GE1523 := n5_; have NB1514_1523 := n6_; have NB1523_1514 := n7_; have NB1518_1523 := n8_; have NB1523_1518 := n9_; clear n0_ n1_ n2_ n3_ n4_ n5_ n6_ n7_ n8_ n9_; clear hb hbox hg; have hnb40 := NB1523_1514.out; have hnc40 := NB1514_1523.out; have hnb41 := NB1523_1518.out; have hnc41 := NB1518_1523.out; have hcz42_0 : w39.cell? ⟨gb1523, 0, none⟩ = some (.int .i64 0) := (blk_cell BK1523.out 0).trans rfl; have hcz42_1 : w39.cell? ⟨gb1523, 1, none⟩ = some (.int .i64 0) := (blk_cell BK1523.out 1).trans rfl; have hcz42_2 : w39.cell? ⟨gb1523, 2, none⟩ = some (.int .i64 0) := (blk_cell BK1523.out 2).trans rfl; have hfz42_0 := blk_frozen BK1523.out 0; have hfz42_1 := blk_frozen BK1523.out 1; have hfz42_2 := blk_frozen BK1523.out 2) | (go_at_call 75; (with_reducible refine (impl_IsInKey.calls k1 t1515 t1519 t1520 t1521 true _ A16.out).mono ?_); rintro e w43 ⟨rfl, hb⟩; have n0_ := Aside0.mk (blk_below (g := gb1514) (o := .cells #[.int .i64 t1512, .int .i64 t1513] 88 (0, 0)) (by (with_reducible repeat (first | refine blk_drewN ?_ _ | refine blk_drew ?_ | refine blk_alloc ?_ _)); refine blk_far ?_ NB1514_1523.out _; (with_reducible repeat (first | refine blk_drewN ?_ _ | refine blk_drew ?_ | refine blk_alloc ?_ _)); refine blk_far ?_ NB1514_1523.out _; (with_reducible repeat (first | refine blk_drewN ?_ _ | refine blk_drew ?_ | refine blk_alloc ?_ _)); refine blk_far ?_ NB1514_1523.out _; (with_reducible repeat (first | refine blk_drewN ?_ _ | refine blk_drew ?_ | refine blk_alloc ?_ _)); exact BK1514.out) hb); have n1_ := Aside0.mk (blk_below (g := gb1518) (o := .cells #[.int .i64 x7_1, .int .i64 t1517, .int .i64 4] 64 (0, 0)) (by (with_reducible repeat (first | refine blk_drewN ?_ _ | refine blk_drew ?_ | refine blk_alloc ?_ _)); refine blk_far ?_ NB1518_1523.out _; (with_reducible repeat (first | refine blk_drewN ?_ _ | refine blk_drew ?_ | refine blk_alloc ?_ _)); refine blk_far ?_ NB1518_1523.out _; (with_reducible repeat (first | refine blk_drewN ?_ _ | refine blk_drew ?_ | refine blk_alloc ?_ _)); refine blk_far ?_ NB1518_1523.out _; (with_reducible repeat (first | refine blk_drewN ?_ _ | refine blk_drew ?_ | refine blk_alloc ?_ _)); exact BK1518.out) hb); have n2_ := Aside0.mk (blk_below (g := gb1523) (o := .cells #[.int .i64 t1519, .int .i64 t1520, .int .i64 t1521] 64 (0, 0)) (by (with_reducible repeat (first | refine blk_drewN ?_ _ | refine blk_drew ?_ | refine blk_alloc ?_ _)); refine blk_put (cs := #[.int .i64 t1519, .int .i64 t1520, .int .i64 0]) ?_ 2 _ rfl; (with_reducible repeat (first | refine blk_drewN ?_ _ | refine blk_drew ?_ | refine blk_alloc ?_ _)); refine blk_put (cs := #[.int .i64 t1519, .int .i64 0, .int .i64 0]) ?_ 1 _ rfl; (with_reducible repeat (first | refine blk_drewN ?_ _ | refine blk_drew ?_ | refine blk_alloc ?_ _)); refine blk_put (cs := #[.int .i64 0, .int .i64 0, .int .i64 0]) ?_ 0 _ rfl; (with_reducible repeat (first | refine blk_drewN ?_ _ | refine blk_drew ?_ | refine blk_alloc ?_ _)); exact BK1523.out) hb); have n3_ := Aside0.mk (below_step (by repeat (first | (with_reducible first | exact HB.out | apply below_alloc | apply pw_below_drewN | apply below_drew1 | refine below_set ?_ GE1514.out | refine below_set ?_ GE1518.out | refine below_set ?_ GE1523.out) | exact HB.out)) hb); clear BK1514; clear BK1518; clear BK1523; clear HB; have BK1514 := n0_; have BK1518 := n1_; have BK1523 := n2_; have HB := n3_; clear n0_ n1_ n2_ n3_; (try clear hb); (try clear hb2); (try clear hk); (try clear hi); have hcz44_0 : w43.cell? ⟨gb1518, 0, none⟩ = some (.int .i64 x7_1) := (blk_cell BK1518.out 0).trans rfl; have hcz44_1 : w43.cell? ⟨gb1518, 1, none⟩ = some (.int .i64 t1517) := (blk_cell BK1518.out 1).trans rfl; have hcz44_2 : w43.cell? ⟨gb1518, 2, none⟩ = some (.int .i64 4) := (blk_cell BK1518.out 2).trans rfl; have hfz44_0 := blk_frozen BK1518.out 0; have hfz44_1 := blk_frozen BK1518.out 1; have hfz44_2 := blk_frozen BK1518.out 2) | (go_at_call 75; (with_reducible refine (impl_IsInKey.calls k1 t1511 x7_1 t1517 4 false _ A18.out).mono ?_); rintro e w45 ⟨rfl, hb⟩; have n0_ := Aside0.mk (blk_below (g := gb1514) (o := .cells #[.int .i64 t1512, .int .i64 t1513] 88 (0, 0)) (by (with_reducible repeat (first | refine blk_drewN ?_ _ | refine blk_drew ?_ | refine blk_alloc ?_ _)); exact BK1514.out) hb); have n1_ := Aside0.mk (blk_below (g := gb1518) (o := .cells #[.int .i64 x7_1, .int .i64 t1517, .int .i64 4] 64 (0, 0)) (by (with_reducible repeat (first | refine blk_drewN ?_ _ | refine blk_drew ?_ | refine blk_alloc ?_ _)); exact BK1518.out) hb); have n2_ := Aside0.mk (blk_below (g := gb1523) (o := .cells #[.int .i64 t1519, .int .i64 t1520, .int .i64 t1521] 64 (0, 0)) (by (with_reducible repeat (first | refine blk_drewN ?_ _ | refine blk_drew ?_ | refine blk_alloc ?_ _)); exact BK1523.out) hb); have n3_ := Aside0.mk (below_step (by repeat (first | (with_reducible first | exact HB.out | apply below_alloc | apply pw_below_drewN | apply below_drew1 | refine below_set ?_ GE1514.out | refine below_set ?_ GE1518.out | refine below_set ?_ GE1523.out) | exact HB.out)) hb); clear BK1514; clear BK1518; clear BK1523; clear HB; have BK1514 := n0_; have BK1518 := n1_; have BK1523 := n2_; have HB := n3_; clear n0_ n1_ n2_ n3_; (try clear hb); (try clear hb2); (try clear hk); (try clear hi)))
          go_ret
          exact ⟨by first | rfl | (simp [errW_none, errW_some] <;> rfl) | (simp [*, errW_none, errW_some] <;> rfl), by repeat (first | (with_reducible first | exact HB.out | apply below_alloc | apply pw_below_drewN | apply below_drew1 | refine below_set ?_ GE1514.out | refine below_set ?_ GE1518.out | refine below_set ?_ GE1523.out) | exact HB.out)⟩
        ·
         replace c17 := Bool.eq_false_iff.mpr c17
         subst c17
         rw [if_neg (show ¬ (false = true) by decide)] at H
         obtain rfl := Option.some.inj H
         go_wp2_with (first | ((with_reducible refine gate_callee (f := 73) rfl ?_); refine goesL_ (some 38) rfl rfl Try.func73 (by kernel_rfl) rfl #[.int .i64 t1511, .int .i64 x7_1] rfl (by (try simp only [List.map_toArray, List.map_cons, List.map_nil]); first | done | rfl | (simp only [List.length_drop, List.length_take]; rfl)) ?_; (with_reducible refine (impl_AlterIn.calls k1 t1511 x7_1 t1517 _ A13.out).mono ?_); rintro e w46 ⟨rfl, hb⟩; refine ⟨_, rfl, ?_⟩; have n0_ := Aside0.mk (blk_below (g := gb1514) (o := .cells #[.int .i64 t1512, .int .i64 t1513] 88 (0, 0)) (by (with_reducible repeat (first | refine blk_drewN ?_ _ | refine blk_drew ?_ | refine blk_alloc ?_ _)); exact BK1514.out) hb); have n1_ := Aside0.mk (below_step (by repeat (first | (with_reducible first | exact HB.out | apply below_alloc | apply pw_below_drewN | apply below_drew1 | refine below_set ?_ GE1514.out) | exact HB.out)) hb); clear BK1514; clear HB; have BK1514 := n0_; have HB := n1_; clear n0_ n1_; (try clear hb); (try clear hb2); (try clear hk); (try clear hi)) | ((with_reducible refine gate_dst (N := 8) rfl ?_); refine box_event ?hg (N := 8) ?hd (cs := #[.int .i64 0, .int .i64 0, .int .i64 0]) (t := 64) ?hr ?_; (case hd => rfl); (case hg => rfl); (case hr => first | (go_simp; done) | (go_simp; rfl)); intro gb1518 hg w47 hbox hb; have n0_ := Aside0.mk (blk_below (g := gb1514) (o := .cells #[.int .i64 t1512, .int .i64 t1513] 88 (0, 0)) (by (with_reducible repeat (first | refine blk_drewN ?_ _ | refine blk_drew ?_ | refine blk_alloc ?_ _)); exact BK1514.out) hb); have n1_ := Aside0.mk (below_step (by repeat (first | (with_reducible first | exact HB.out | apply below_alloc | apply pw_below_drewN | apply below_drew1 | refine below_set ?_ GE1514.out) | exact HB.out)) hb); have n2_ := Aside0.mk (hbox); have n3_ := Aside0.mk ((by rw [hg]; exact (below_size (by repeat (first | (with_reducible first | exact HB.out | apply below_alloc | apply pw_below_drewN | apply below_drew1 | refine below_set ?_ GE1514.out) | exact HB.out))) : w.heap.size ≤ gb1518)); have n4_ := Aside0.mk ((by rw [hg]; exact (below_size (by repeat (first | (with_reducible first | exact HB.out | apply below_alloc | apply pw_below_drewN | apply below_drew1 | refine below_set ?_ GE1514.out) | exact HB.out))) : w.heap.size ≤ gb1518)); have n5_ := Aside0.mk ((by rw [hg]; exact Nat.ne_of_lt (blk_lt (g := gb1514) (o := .cells #[.int .i64 t1512, .int .i64 t1513] 88 (0, 0)) (by (with_reducible repeat (first | refine blk_drewN ?_ _ | refine blk_drew ?_ | refine blk_alloc ?_ _)); exact BK1514.out)) : gb1514 ≠ gb1518)); have n6_ := Aside0.mk ((by rw [hg]; exact Nat.ne_of_gt (blk_lt (g := gb1514) (o := .cells #[.int .i64 t1512, .int .i64 t1513] 88 (0, 0)) (by (with_reducible repeat (first | refine blk_drewN ?_ _ | refine blk_drew ?_ | refine blk_alloc ?_ _)); exact BK1514.out)) : gb1518 ≠ gb1514)); clear BK1514; clear HB; have BK1514 := n0_; have HB := n1_; have BK1518 := n2_; have GW1518 := n3_; have GE1518 := n4_; have NB1514_1518 := n5_; have NB1518_1514 := n6_; clear n0_ n1_ n2_ n3_ n4_ n5_ n6_; clear hb hbox hg; have hnb48 := NB1518_1514.out; have hnc48 := NB1514_1518.out; have hcz49_0 : w47.cell? ⟨gb1518, 0, none⟩ = some (.int .i64 0) := (blk_cell BK1518.out 0).trans rfl; have hcz49_1 : w47.cell? ⟨gb1518, 1, none⟩ = some (.int .i64 0) := (blk_cell BK1518.out 1).trans rfl; have hcz49_2 : w47.cell? ⟨gb1518, 2, none⟩ = some (.int .i64 0) := (blk_cell BK1518.out 2).trans rfl; have hfz49_0 := blk_frozen BK1518.out 0; have hfz49_1 := blk_frozen BK1518.out 1; have hfz49_2 := blk_frozen BK1518.out 2; have hcz50_0 : w47.cell? ⟨gb1514, 0, none⟩ = some (.int .i64 t1512) := (blk_cell BK1514.out 0).trans rfl; have hcz50_1 : w47.cell? ⟨gb1514, 1, none⟩ = some (.int .i64 t1513) := (blk_cell BK1514.out 1).trans rfl; have hfz50_0 := blk_frozen BK1514.out 0; have hfz50_1 := blk_frozen BK1514.out 1) | ((with_reducible refine gate_callee (f := 74) rfl ?_); refine goesL_ (some 43) rfl rfl Try.func74 (by kernel_rfl) rfl #[.agg #[.int .i64 x7_1, .int .i64 t1517, .int .i64 4], .agg #[.int .i64 t1512, .int .i64 t1513]] rfl (by (try simp only [List.map_toArray, List.map_cons, List.map_nil]); first | done | rfl | (simp only [List.length_drop, List.length_take]; rfl)) ?_; (with_reducible refine (impl_MoveNote.calls k1 x7_1 t1517 4 t1512 t1513 t1519 t1520 t1521 true _ A14.out).mono ?_); rintro e w51 ⟨rfl, hb⟩; refine ⟨_, rfl, ?_⟩; have n0_ := Aside0.mk (blk_below (g := gb1514) (o := .cells #[.int .i64 t1512, .int .i64 t1513] 88 (0, 0)) (by (with_reducible repeat (first | refine blk_drewN ?_ _ | refine blk_drew ?_ | refine blk_alloc ?_ _)); refine blk_far ?_ NB1514_1518.out _; (with_reducible repeat (first | refine blk_drewN ?_ _ | refine blk_drew ?_ | refine blk_alloc ?_ _)); refine blk_far ?_ NB1514_1518.out _; (with_reducible repeat (first | refine blk_drewN ?_ _ | refine blk_drew ?_ | refine blk_alloc ?_ _)); refine blk_far ?_ NB1514_1518.out _; (with_reducible repeat (first | refine blk_drewN ?_ _ | refine blk_drew ?_ | refine blk_alloc ?_ _)); exact BK1514.out) hb); have n1_ := Aside0.mk (blk_below (g := gb1518) (o := .cells #[.int .i64 x7_1, .int .i64 t1517, .int .i64 4] 64 (0, 0)) (by (with_reducible repeat (first | refine blk_drewN ?_ _ | refine blk_drew ?_ | refine blk_alloc ?_ _)); refine blk_put (cs := #[.int .i64 x7_1, .int .i64 t1517, .int .i64 0]) ?_ 2 _ rfl; (with_reducible repeat (first | refine blk_drewN ?_ _ | refine blk_drew ?_ | refine blk_alloc ?_ _)); refine blk_put (cs := #[.int .i64 x7_1, .int .i64 0, .int .i64 0]) ?_ 1 _ rfl; (with_reducible repeat (first | refine blk_drewN ?_ _ | refine blk_drew ?_ | refine blk_alloc ?_ _)); refine blk_put (cs := #[.int .i64 0, .int .i64 0, .int .i64 0]) ?_ 0 _ rfl; (with_reducible repeat (first | refine blk_drewN ?_ _ | refine blk_drew ?_ | refine blk_alloc ?_ _)); exact BK1518.out) hb); have n2_ := Aside0.mk (below_step (by repeat (first | (with_reducible first | exact HB.out | apply below_alloc | apply pw_below_drewN | apply below_drew1 | refine below_set ?_ GE1514.out | refine below_set ?_ GE1518.out) | exact HB.out)) hb); clear BK1514; clear BK1518; clear HB; have BK1514 := n0_; have BK1518 := n1_; have HB := n2_; clear n0_ n1_ n2_; (try clear hb); (try clear hb2); (try clear hk); (try clear hi)) | ((with_reducible refine gate_dst (N := 9) rfl ?_); refine box_event ?hg (N := 9) ?hd (cs := #[.int .i64 0, .int .i64 0, .int .i64 0]) (t := 64) ?hr ?_; (case hd => rfl); (case hg => rfl); (case hr => first | (go_simp; done) | (go_simp; rfl)); intro gb1523 hg w52 hbox hb; have n0_ := Aside0.mk (blk_below (g := gb1514) (o := .cells #[.int .i64 t1512, .int .i64 t1513] 88 (0, 0)) (by (with_reducible repeat (first | refine blk_drewN ?_ _ | refine blk_drew ?_ | refine blk_alloc ?_ _)); exact BK1514.out) hb); have n1_ := Aside0.mk (blk_below (g := gb1518) (o := .cells #[.int .i64 x7_1, .int .i64 t1517, .int .i64 4] 64 (0, 0)) (by (with_reducible repeat (first | refine blk_drewN ?_ _ | refine blk_drew ?_ | refine blk_alloc ?_ _)); exact BK1518.out) hb); have n2_ := Aside0.mk (below_step (by repeat (first | (with_reducible first | exact HB.out | apply below_alloc | apply pw_below_drewN | apply below_drew1 | refine below_set ?_ GE1514.out | refine below_set ?_ GE1518.out) | exact HB.out)) hb); have n3_ := Aside0.mk (hbox); have n4_ := Aside0.mk ((by rw [hg]; exact (below_size (by repeat (first | (with_reducible first | exact HB.out | apply below_alloc | apply pw_below_drewN | apply below_drew1 | refine below_set ?_ GE1514.out | refine below_set ?_ GE1518.out) | exact HB.out))) : w.heap.size ≤ gb1523)); have n5_ := Aside0.mk ((by rw [hg]; exact (below_size (by repeat (first | (with_reducible first | exact HB.out | apply below_alloc | apply pw_below_drewN | apply below_drew1 | refine below_set ?_ GE1514.out | refine below_set ?_ GE1518.out) | exact HB.out))) : w.heap.size ≤ gb1523)); have n6_ := Aside0.mk ((by rw [hg]; exact Nat.ne_of_lt (blk_lt (g := gb1514) (o := .cells #[.int .i64 t1512, .int .i64 t1513] 88 (0, 0)) (by (with_reducible repeat (first | refine blk_drewN ?_ _ | refine blk_drew ?_ | refine blk_alloc ?_ _)); exact BK1514.out)) : gb1514 ≠ gb1523)); have n7_ := Aside0.mk ((by rw [hg]; exact Nat.ne_of_gt (blk_lt (g := gb1514) (o := .cells #[.int .i64 t1512, .int .i64 t1513] 88 (0, 0)) (by (with_reducible repeat (first | refine blk_drewN ?_ _ | refine blk_drew ?_ | refine blk_alloc ?_ _)); exact BK1514.out)) : gb1523 ≠ gb1514)); have n8_ := Aside0.mk ((by rw [hg]; exact Nat.ne_of_lt (blk_lt (g := gb1518) (o := .cells #[.int .i64 x7_1, .int .i64 t1517, .int .i64 4] 64 (0, 0)) (by (with_reducible repeat (first | refine blk_drewN ?_ _ | refine blk_drew ?_ | refine blk_alloc ?_ _)); exact BK1518.out)) : gb1518 ≠ gb1523)); have n9_ := Aside0.mk ((by rw [hg]; exact Nat.ne_of_gt (blk_lt (g := gb1518) (o := .cells #[.int .i64 x7_1, .int .i64 t1517, .int .i64 4] 64 (0, 0)) (by (with_reducible repeat (first | refine blk_drewN ?_ _ | refine blk_drew ?_ | refine blk_alloc ?_ _)); exact BK1518.out)) : gb1523 ≠ gb1518)); clear BK1514; clear BK1518; clear HB; have BK1514 := n0_; have BK1518 := n1_; have HB := n2_; have BK1523 := n3_; have GW1523 := n4_; have GE1523 := n5_; have NB1514_1523 := n6_; have NB1523_1514 := n7_; have NB1518_1523 := n8_; have NB1523_1518 := n9_; clear n0_ n1_ n2_ n3_ n4_ n5_ n6_ n7_ n8_ n9_; clear hb hbox hg; have hnb53 := NB1523_1514.out; have hnc53 := NB1514_1523.out; have hnb54 := NB1523_1518.out; have hnc54 := NB1518_1523.out; have hcz55_0 : w52.cell? ⟨gb1523, 0, none⟩ = some (.int .i64 0) := (blk_cell BK1523.out 0).trans rfl; have hcz55_1 : w52.cell? ⟨gb1523, 1, none⟩ = some (.int .i64 0) := (blk_cell BK1523.out 1).trans rfl; have hcz55_2 : w52.cell? ⟨gb1523, 2, none⟩ = some (.int .i64 0) := (blk_cell BK1523.out 2).trans rfl; have hfz55_0 := blk_frozen BK1523.out 0; have hfz55_1 := blk_frozen BK1523.out 1; have hfz55_2 := blk_frozen BK1523.out 2) | (go_at_call 75; (with_reducible refine (impl_IsInKey.calls k1 t1515 t1519 t1520 t1521 false _ A16.out).mono ?_); rintro e w56 ⟨rfl, hb⟩; have n0_ := Aside0.mk (blk_below (g := gb1514) (o := .cells #[.int .i64 t1512, .int .i64 t1513] 88 (0, 0)) (by (with_reducible repeat (first | refine blk_drewN ?_ _ | refine blk_drew ?_ | refine blk_alloc ?_ _)); refine blk_far ?_ NB1514_1523.out _; (with_reducible repeat (first | refine blk_drewN ?_ _ | refine blk_drew ?_ | refine blk_alloc ?_ _)); refine blk_far ?_ NB1514_1523.out _; (with_reducible repeat (first | refine blk_drewN ?_ _ | refine blk_drew ?_ | refine blk_alloc ?_ _)); refine blk_far ?_ NB1514_1523.out _; (with_reducible repeat (first | refine blk_drewN ?_ _ | refine blk_drew ?_ | refine blk_alloc ?_ _)); exact BK1514.out) hb); have n1_ := Aside0.mk (blk_below (g := gb1518) (o := .cells #[.int .i64 x7_1, .int .i64 t1517, .int .i64 4] 64 (0, 0)) (by (with_reducible repeat (first | refine blk_drewN ?_ _ | refine blk_drew ?_ | refine blk_alloc ?_ _)); refine blk_far ?_ NB1518_1523.out _; (with_reducible repeat (first | refine blk_drewN ?_ _ | refine blk_drew ?_ | refine blk_alloc ?_ _)); refine blk_far ?_ NB1518_1523.out _; (with_reducible repeat (first | refine blk_drewN ?_ _ | refine blk_drew ?_ | refine blk_alloc ?_ _)); refine blk_far ?_ NB1518_1523.out _; (with_reducible repeat (first | refine blk_drewN ?_ _ | refine blk_drew ?_ | refine blk_alloc ?_ _)); exact BK1518.out) hb); have n2_ := Aside0.mk (blk_below (g := gb1523) (o := .cells #[.int .i64 t1519, .int .i64 t1520, .int .i64 t1521] 64 (0, 0)) (by (with_reducible repeat (first | refine blk_drewN ?_ _ | refine blk_drew ?_ | refine blk_alloc ?_ _)); refine blk_put (cs := #[.int .i64 t1519, .int .i64 t1520, .int .i64 0]) ?_ 2 _ rfl; (with_reducible repeat (first | refine blk_drewN ?_ _ | refine blk_drew ?_ | refine blk_alloc ?_ _)); refine blk_put (cs := #[.int .i64 t1519, .int .i64 0, .int .i64 0]) ?_ 1 _ rfl; (with_reducible repeat (first | refine blk_drewN ?_ _ | refine blk_drew ?_ | refine blk_alloc ?_ _)); refine blk_put (cs := #[.int .i64 0, .int .i64 0, .int .i64 0]) ?_ 0 _ rfl; (with_reducible repeat (first | refine blk_drewN ?_ _ | refine blk_drew ?_ | refine blk_alloc ?_ _)); exact BK1523.out) hb); have n3_ := Aside0.mk (below_step (by repeat (first | (with_reducible first | exact HB.out | apply below_alloc | apply pw_below_drewN | apply below_drew1 | refine below_set ?_ GE1514.out | refine below_set ?_ GE1518.out | refine below_set ?_ GE1523.out) | exact HB.out)) hb); clear BK1514; clear BK1518; clear BK1523; clear HB; have BK1514 := n0_; have BK1518 := n1_; have BK1523 := n2_; have HB := n3_; clear n0_ n1_ n2_ n3_; (try clear hb); (try clear hb2); (try clear hk); (try clear hi)))
         go_ret
         exact ⟨by first | rfl | (simp [errW_none, errW_some] <;> rfl) | (simp [*, errW_none, errW_some] <;> rfl), by repeat (first | (with_reducible first | exact HB.out | apply below_alloc | apply pw_below_drewN | apply below_drew1 | refine below_set ?_ GE1514.out | refine below_set ?_ GE1518.out | refine below_set ?_ GE1523.out) | exact HB.out)⟩
       ·
        replace c15 := Bool.eq_false_iff.mpr c15
        subst c15
        rw [if_neg (show ¬ (false = true) by decide)] at H
        replace H := Option.bind_eq_some_iff.mp H
        obtain ⟨t1526, A570, H⟩ := H
        try dsimp only at H
        have A57 := Aside0.mk A570
        clear A570
        by_cases c58 : t1526 = true
        ·
         subst c58
         rw [if_pos rfl] at H
         have H' := Aside0.mk H
         clear H
         go_wp2_with (first | ((with_reducible refine gate_callee (f := 73) rfl ?_); refine goesL_ (some 38) rfl rfl Try.func73 (by kernel_rfl) rfl #[.int .i64 t1511, .int .i64 x7_1] rfl (by (try simp only [List.map_toArray, List.map_cons, List.map_nil]); first | done | rfl | (simp only [List.length_drop, List.length_take]; rfl)) ?_; (with_reducible refine (impl_AlterIn.calls k1 t1511 x7_1 t1517 _ A13.out).mono ?_); rintro e w59 ⟨rfl, hb⟩; refine ⟨_, rfl, ?_⟩; have n0_ := Aside0.mk (blk_below (g := gb1514) (o := .cells #[.int .i64 t1512, .int .i64 t1513] 88 (0, 0)) (by (with_reducible repeat (first | refine blk_drewN ?_ _ | refine blk_drew ?_ | refine blk_alloc ?_ _)); exact BK1514.out) hb); have n1_ := Aside0.mk (below_step (by repeat (first | (with_reducible first | exact HB.out | apply below_alloc | apply pw_below_drewN | apply below_drew1 | refine below_set ?_ GE1514.out) | exact HB.out)) hb); clear BK1514; clear HB; have BK1514 := n0_; have HB := n1_; clear n0_ n1_; (try clear hb); (try clear hb2); (try clear hk); (try clear hi)) | ((with_reducible refine gate_dst (N := 8) rfl ?_); refine box_event ?hg (N := 8) ?hd (cs := #[.int .i64 0, .int .i64 0, .int .i64 0]) (t := 64) ?hr ?_; (case hd => rfl); (case hg => rfl); (case hr => first | (go_simp; done) | (go_simp; rfl)); intro gb1518 hg w60 hbox hb; have n0_ := Aside0.mk (blk_below (g := gb1514) (o := .cells #[.int .i64 t1512, .int .i64 t1513] 88 (0, 0)) (by (with_reducible repeat (first | refine blk_drewN ?_ _ | refine blk_drew ?_ | refine blk_alloc ?_ _)); exact BK1514.out) hb); have n1_ := Aside0.mk (below_step (by repeat (first | (with_reducible first | exact HB.out | apply below_alloc | apply pw_below_drewN | apply below_drew1 | refine below_set ?_ GE1514.out) | exact HB.out)) hb); have n2_ := Aside0.mk (hbox); have n3_ := Aside0.mk ((by rw [hg]; exact (below_size (by repeat (first | (with_reducible first | exact HB.out | apply below_alloc | apply pw_below_drewN | apply below_drew1 | refine below_set ?_ GE1514.out) | exact HB.out))) : w.heap.size ≤ gb1518)); have n4_ := Aside0.mk ((by rw [hg]; exact (below_size (by repeat (first | (with_reducible first | exact HB.out | apply below_alloc | apply pw_below_drewN | apply below_drew1 | refine below_set ?_ GE1514.out) | exact HB.out))) : w.heap.size ≤ gb1518)); have n5_ := Aside0.mk ((by rw [hg]; exact Nat.ne_of_lt (blk_lt (g := gb1514) (o := .cells #[.int .i64 t1512, .int .i64 t1513] 88 (0, 0)) (by (with_reducible repeat (first | refine blk_drewN ?_ _ | refine blk_drew ?_ | refine blk_alloc ?_ _)); exact BK1514.out)) : gb1514 ≠ gb1518)); have n6_ := Aside0.mk ((by rw [hg]; exact Nat.ne_of_gt (blk_lt (g := gb1514) (o := .cells #[.int .i64 t1512, .int .i64 t1513] 88 (0, 0)) (by (with_reducible repeat (first | refine blk_drewN ?_ _ | refine blk_drew ?_ | refine blk_alloc ?_ _)); exact BK1514.out)) : gb1518 ≠ gb1514)); clear BK1514; clear HB; have BK1514 := n0_; have HB := n1_; have BK1518 := n2_; have GW1518 := n3_; have GE1518 := n4_; have NB1514_1518 := n5_; have NB1518_1514 := n6_; clear n0_ n1_ n2_ n3_ n4_ n5_ n6_; clear hb hbox hg; have hnb61 := NB1518_1514.out; have hnc61 := NB1514_1518.out; have hcz62_0 : w60.cell? ⟨gb1518, 0, none⟩ = some (.int .i64 0) := (blk_cell BK1518.out 0).trans rfl; have hcz62_1 : w60.cell? ⟨gb1518, 1, none⟩ = some (.int .i64 0) := (blk_cell BK1518.out 1).trans rfl; have hcz62_2 : w60.cell? ⟨gb1518, 2, none⟩ = some (.int .i64 0) := (blk_cell BK1518.out 2).trans rfl; have hfz62_0 := blk_frozen BK1518.out 0; have hfz62_1 := blk_frozen BK1518.out 1; have hfz62_2 := blk_frozen BK1518.out 2; have hcz63_0 : w60.cell? ⟨gb1514, 0, none⟩ = some (.int .i64 t1512) := (blk_cell BK1514.out 0).trans rfl; have hcz63_1 : w60.cell? ⟨gb1514, 1, none⟩ = some (.int .i64 t1513) := (blk_cell BK1514.out 1).trans rfl; have hfz63_0 := blk_frozen BK1514.out 0; have hfz63_1 := blk_frozen BK1514.out 1) | ((with_reducible refine gate_callee (f := 74) rfl ?_); refine goesL_ (some 43) rfl rfl Try.func74 (by kernel_rfl) rfl #[.agg #[.int .i64 x7_1, .int .i64 t1517, .int .i64 4], .agg #[.int .i64 t1512, .int .i64 t1513]] rfl (by (try simp only [List.map_toArray, List.map_cons, List.map_nil]); first | done | rfl | (simp only [List.length_drop, List.length_take]; rfl)) ?_; (with_reducible refine (impl_MoveNote.calls k1 x7_1 t1517 4 t1512 t1513 t1519 t1520 t1521 false _ A14.out).mono ?_); rintro e w64 ⟨rfl, hb⟩; refine ⟨_, rfl, ?_⟩; have n0_ := Aside0.mk (blk_below (g := gb1514) (o := .cells #[.int .i64 t1512, .int .i64 t1513] 88 (0, 0)) (by (with_reducible repeat (first | refine blk_drewN ?_ _ | refine blk_drew ?_ | refine blk_alloc ?_ _)); refine blk_far ?_ NB1514_1518.out _; (with_reducible repeat (first | refine blk_drewN ?_ _ | refine blk_drew ?_ | refine blk_alloc ?_ _)); refine blk_far ?_ NB1514_1518.out _; (with_reducible repeat (first | refine blk_drewN ?_ _ | refine blk_drew ?_ | refine blk_alloc ?_ _)); refine blk_far ?_ NB1514_1518.out _; (with_reducible repeat (first | refine blk_drewN ?_ _ | refine blk_drew ?_ | refine blk_alloc ?_ _)); exact BK1514.out) hb); have n1_ := Aside0.mk (blk_below (g := gb1518) (o := .cells #[.int .i64 x7_1, .int .i64 t1517, .int .i64 4] 64 (0, 0)) (by (with_reducible repeat (first | refine blk_drewN ?_ _ | refine blk_drew ?_ | refine blk_alloc ?_ _)); refine blk_put (cs := #[.int .i64 x7_1, .int .i64 t1517, .int .i64 0]) ?_ 2 _ rfl; (with_reducible repeat (first | refine blk_drewN ?_ _ | refine blk_drew ?_ | refine blk_alloc ?_ _)); refine blk_put (cs := #[.int .i64 x7_1, .int .i64 0, .int .i64 0]) ?_ 1 _ rfl; (with_reducible repeat (first | refine blk_drewN ?_ _ | refine blk_drew ?_ | refine blk_alloc ?_ _)); refine blk_put (cs := #[.int .i64 0, .int .i64 0, .int .i64 0]) ?_ 0 _ rfl; (with_reducible repeat (first | refine blk_drewN ?_ _ | refine blk_drew ?_ | refine blk_alloc ?_ _)); exact BK1518.out) hb); have n2_ := Aside0.mk (below_step (by repeat (first | (with_reducible first | exact HB.out | apply below_alloc | apply pw_below_drewN | apply below_drew1 | refine below_set ?_ GE1514.out | refine below_set ?_ GE1518.out) | exact HB.out)) hb); clear BK1514; clear BK1518; clear HB; have BK1514 := n0_; have BK1518 := n1_; have HB := n2_; clear n0_ n1_ n2_; (try clear hb); (try clear hb2); (try clear hk); (try clear hi)) | ((with_reducible refine gate_dst (N := 9) rfl ?_); refine box_event ?hg (N := 9) ?hd (cs := #[.int .i64 0, .int .i64 0, .int .i64 0]) (t := 64) ?hr ?_; (case hd => rfl); (case hg => rfl); (case hr => first | (go_simp; done) | (go_simp; rfl)); intro gb1523 hg w65 hbox hb; have n0_ := Aside0.mk (blk_below (g := gb1514) (o := .cells #[.int .i64 t1512, .int .i64 t1513] 88 (0, 0)) (by (with_reducible repeat (first | refine blk_drewN ?_ _ | refine blk_drew ?_ | refine blk_alloc ?_ _)); exact BK1514.out) hb); have n1_ := Aside0.mk (blk_below (g := gb1518) (o := .cells #[.int .i64 x7_1, .int .i64 t1517, .int .i64 4] 64 (0, 0)) (by (with_reducible repeat (first | refine blk_drewN ?_ _ | refine blk_drew ?_ | refine blk_alloc ?_ _)); exact BK1518.out) hb); have n2_ := Aside0.mk (below_step (by repeat (first | (with_reducible first | exact HB.out | apply below_alloc | apply pw_below_drewN | apply below_drew1 | refine below_set ?_ GE1514.out | refine below_set ?_ GE1518.out) | exact HB.out)) hb); have n3_ := Aside0.mk (hbox); have n4_ := Aside0.mk ((by rw [hg]; exact (below_size (by repeat (first | (with_reducible first | exact HB.out | apply below_alloc | apply pw_below_drewN | apply below_drew1 | refine below_set ?_ GE1514.out | refine below_set ?_ GE1518.out) | exact HB.out))) : w.heap.size ≤ gb1523)); have n5_ := Aside0.mk ((by rw [hg]; exact (below_size (by repeat (first | (with_reducible first | exact HB.out | apply below_alloc | apply pw_below_drewN | apply below_drew1 | refine below_set ?_ GE1514.out | refine below_set ?_ GE1518.out) | exact HB.out))) : w.heap.size ≤ gb1523)); have n6_ := Aside0.mk ((by rw [hg]; exact Nat.ne_of_lt (blk_lt (g := gb1514) (o := .cells #[.int .i64 t1512, .int .i64 t1513] 88 (0, 0)) (by (with_reducible repeat (first | refine blk_drewN ?_ _ | refine blk_drew ?_ | refine blk_alloc ?_ _)); exact BK1514.out)) : gb1514 ≠ gb1523)); have n7_ := Aside0.mk ((by rw [hg]; exact Nat.ne_of_gt (blk_lt (g := gb1514) (o := .cells #[.int .i64 t1512, .int .i64 t1513] 88 (0, 0)) (by (with_reducible repeat (first | refine blk_drewN ?_ _ | refine blk_drew ?_ | refine blk_alloc ?_ _)); exact BK1514.out)) : gb1523 ≠ gb1514)); have n8_ := Aside0.mk ((by rw [hg]; exact Nat.ne_of_lt (blk_lt (g := gb1518) (o := .cells #[.int .i64 x7_1, .int .i64 t1517, .int .i64 4] 64 (0, 0)) (by (with_reducible repeat (first | refine blk_drewN ?_ _ | refine blk_drew ?_ | refine blk_alloc ?_ _)); exact BK1518.out)) : gb1518 ≠ gb1523)); have n9_ := Aside0.mk ((by rw [hg]; exact Nat.ne_of_gt (blk_lt (g := gb1518) (o := .cells #[.int .i64 x7_1, .int .i64 t1517, .int .i64 4] 64 (0, 0)) (by (with_reducible repeat (first | refine blk_drewN ?_ _ | refine blk_drew ?_ | refine blk_alloc ?_ _)); exact BK1518.out)) : gb1523 ≠ gb1518)); clear BK1514; clear BK1518; clear HB; have BK1514 := n0_; have BK1518 := n1_; have HB := n2_; have BK1523 := n3_; have GW1523 := n4_; have GE1523 := n5_; have NB1514_1523 := n6_; have NB1523_1514 := n7_; have NB1518_1523 := n8_; have NB1523_1518 := n9_; clear n0_ n1_ n2_ n3_ n4_ n5_ n6_ n7_ n8_ n9_; clear hb hbox hg; have hnb66 := NB1523_1514.out; have hnc66 := NB1514_1523.out; have hnb67 := NB1523_1518.out; have hnc67 := NB1518_1523.out; have hcz68_0 : w65.cell? ⟨gb1523, 0, none⟩ = some (.int .i64 0) := (blk_cell BK1523.out 0).trans rfl; have hcz68_1 : w65.cell? ⟨gb1523, 1, none⟩ = some (.int .i64 0) := (blk_cell BK1523.out 1).trans rfl; have hcz68_2 : w65.cell? ⟨gb1523, 2, none⟩ = some (.int .i64 0) := (blk_cell BK1523.out 2).trans rfl; have hfz68_0 := blk_frozen BK1523.out 0; have hfz68_1 := blk_frozen BK1523.out 1; have hfz68_2 := blk_frozen BK1523.out 2; have hcz69_0 : w65.cell? ⟨gb1518, 0, none⟩ = some (.int .i64 x7_1) := (blk_cell BK1518.out 0).trans rfl; have hcz69_1 : w65.cell? ⟨gb1518, 1, none⟩ = some (.int .i64 t1517) := (blk_cell BK1518.out 1).trans rfl; have hcz69_2 : w65.cell? ⟨gb1518, 2, none⟩ = some (.int .i64 4) := (blk_cell BK1518.out 2).trans rfl; have hfz69_0 := blk_frozen BK1518.out 0; have hfz69_1 := blk_frozen BK1518.out 1; have hfz69_2 := blk_frozen BK1518.out 2) | (go_at_call 75; (with_reducible refine (impl_IsInKey.calls k1 t1511 x7_1 t1517 4 true _ A57.out).mono ?_); rintro e w70 ⟨rfl, hb⟩; have n0_ := Aside0.mk (blk_below (g := gb1514) (o := .cells #[.int .i64 t1512, .int .i64 t1513] 88 (0, 0)) (by (with_reducible repeat (first | refine blk_drewN ?_ _ | refine blk_drew ?_ | refine blk_alloc ?_ _)); refine blk_far ?_ NB1514_1523.out _; (with_reducible repeat (first | refine blk_drewN ?_ _ | refine blk_drew ?_ | refine blk_alloc ?_ _)); refine blk_far ?_ NB1514_1523.out _; (with_reducible repeat (first | refine blk_drewN ?_ _ | refine blk_drew ?_ | refine blk_alloc ?_ _)); refine blk_far ?_ NB1514_1523.out _; (with_reducible repeat (first | refine blk_drewN ?_ _ | refine blk_drew ?_ | refine blk_alloc ?_ _)); exact BK1514.out) hb); have n1_ := Aside0.mk (blk_below (g := gb1518) (o := .cells #[.int .i64 x7_1, .int .i64 t1517, .int .i64 4] 64 (0, 0)) (by (with_reducible repeat (first | refine blk_drewN ?_ _ | refine blk_drew ?_ | refine blk_alloc ?_ _)); refine blk_far ?_ NB1518_1523.out _; (with_reducible repeat (first | refine blk_drewN ?_ _ | refine blk_drew ?_ | refine blk_alloc ?_ _)); refine blk_far ?_ NB1518_1523.out _; (with_reducible repeat (first | refine blk_drewN ?_ _ | refine blk_drew ?_ | refine blk_alloc ?_ _)); refine blk_far ?_ NB1518_1523.out _; (with_reducible repeat (first | refine blk_drewN ?_ _ | refine blk_drew ?_ | refine blk_alloc ?_ _)); exact BK1518.out) hb); have n2_ := Aside0.mk (blk_below (g := gb1523) (o := .cells #[.int .i64 t1519, .int .i64 t1520, .int .i64 t1521] 64 (0, 0)) (by (with_reducible repeat (first | refine blk_drewN ?_ _ | refine blk_drew ?_ | refine blk_alloc ?_ _)); refine blk_put (cs := #[.int .i64 t1519, .int .i64 t1520, .int .i64 0]) ?_ 2 _ rfl; (with_reducible repeat (first | refine blk_drewN ?_ _ | refine blk_drew ?_ | refine blk_alloc ?_ _)); refine blk_put (cs := #[.int .i64 t1519, .int .i64 0, .int .i64 0]) ?_ 1 _ rfl; (with_reducible repeat (first | refine blk_drewN ?_ _ | refine blk_drew ?_ | refine blk_alloc ?_ _)); refine blk_put (cs := #[.int .i64 0, .int .i64 0, .int .i64 0]) ?_ 0 _ rfl; (with_reducible repeat (first | refine blk_drewN ?_ _ | refine blk_drew ?_ | refine blk_alloc ?_ _)); exact BK1523.out) hb); have n3_ := Aside0.mk (below_step (by repeat (first | (with_reducible first | exact HB.out | apply below_alloc | apply pw_below_drewN | apply below_drew1 | refine below_set ?_ GE1514.out | refine below_set ?_ GE1518.out | refine below_set ?_ GE1523.out) | exact HB.out)) hb); clear BK1514; clear BK1518; clear BK1523; clear HB; have BK1514 := n0_; have BK1518 := n1_; have BK1523 := n2_; have HB := n3_; clear n0_ n1_ n2_ n3_; (try clear hb); (try clear hb2); (try clear hk); (try clear hi)))
         go_roundg k1
         case measure => have := HK1.out; omega
         case rel => exact ⟨(wrap64 (x7_1 + 1)), (by first | rfl | (simp; done) | (simp [*]; done)), H', ⟨by have := HK1.out; omega⟩, ⟨by (with_reducible repeat (first | refine blk_drewN ?_ _ | refine blk_drew ?_ | refine blk_alloc ?_ _)); exact BK1514.out⟩, ⟨by repeat (first | (with_reducible first | exact HB.out | apply below_alloc | apply pw_below_drewN | apply below_drew1 | refine below_set ?_ GE1514.out | refine below_set ?_ GE1518.out | refine below_set ?_ GE1523.out) | exact HB.out)⟩⟩
        ·
         replace c58 := Bool.eq_false_iff.mpr c58
         subst c58
         rw [if_neg (show ¬ (false = true) by decide)] at H
         obtain rfl := Option.some.inj H
         go_wp2_with (first | ((with_reducible refine gate_callee (f := 73) rfl ?_); refine goesL_ (some 38) rfl rfl Try.func73 (by kernel_rfl) rfl #[.int .i64 t1511, .int .i64 x7_1] rfl (by (try simp only [List.map_toArray, List.map_cons, List.map_nil]); first | done | rfl | (simp only [List.length_drop, List.length_take]; rfl)) ?_; (with_reducible refine (impl_AlterIn.calls k1 t1511 x7_1 t1517 _ A13.out).mono ?_); rintro e w71 ⟨rfl, hb⟩; refine ⟨_, rfl, ?_⟩; have n0_ := Aside0.mk (blk_below (g := gb1514) (o := .cells #[.int .i64 t1512, .int .i64 t1513] 88 (0, 0)) (by (with_reducible repeat (first | refine blk_drewN ?_ _ | refine blk_drew ?_ | refine blk_alloc ?_ _)); exact BK1514.out) hb); have n1_ := Aside0.mk (below_step (by repeat (first | (with_reducible first | exact HB.out | apply below_alloc | apply pw_below_drewN | apply below_drew1 | refine below_set ?_ GE1514.out) | exact HB.out)) hb); clear BK1514; clear HB; have BK1514 := n0_; have HB := n1_; clear n0_ n1_; (try clear hb); (try clear hb2); (try clear hk); (try clear hi)) | ((with_reducible refine gate_dst (N := 8) rfl ?_); refine box_event ?hg (N := 8) ?hd (cs := #[.int .i64 0, .int .i64 0, .int .i64 0]) (t := 64) ?hr ?_; (case hd => rfl); (case hg => rfl); (case hr => first | (go_simp; done) | (go_simp; rfl)); intro gb1518 hg w72 hbox hb; have n0_ := Aside0.mk (blk_below (g := gb1514) (o := .cells #[.int .i64 t1512, .int .i64 t1513] 88 (0, 0)) (by (with_reducible repeat (first | refine blk_drewN ?_ _ | refine blk_drew ?_ | refine blk_alloc ?_ _)); exact BK1514.out) hb); have n1_ := Aside0.mk (below_step (by repeat (first | (with_reducible first | exact HB.out | apply below_alloc | apply pw_below_drewN | apply below_drew1 | refine below_set ?_ GE1514.out) | exact HB.out)) hb); have n2_ := Aside0.mk (hbox); have n3_ := Aside0.mk ((by rw [hg]; exact (below_size (by repeat (first | (with_reducible first | exact HB.out | apply below_alloc | apply pw_below_drewN | apply below_drew1 | refine below_set ?_ GE1514.out) | exact HB.out))) : w.heap.size ≤ gb1518)); have n4_ := Aside0.mk ((by rw [hg]; exact (below_size (by repeat (first | (with_reducible first | exact HB.out | apply below_alloc | apply pw_below_drewN | apply below_drew1 | refine below_set ?_ GE1514.out) | exact HB.out))) : w.heap.size ≤ gb1518)); have n5_ := Aside0.mk ((by rw [hg]; exact Nat.ne_of_lt (blk_lt (g := gb1514) (o := .cells #[.int .i64 t1512, .int .i64 t1513] 88 (0, 0)) (by (with_reducible repeat (first | refine blk_drewN ?_ _ | refine blk_drew ?_ | refine blk_alloc ?_ _)); exact BK1514.out)) : gb1514 ≠ gb1518)); have n6_ := Aside0.mk ((by rw [hg]; exact Nat.ne_of_gt (blk_lt (g := gb1514) (o := .cells #[.int .i64 t1512, .int .i64 t1513] 88 (0, 0)) (by (with_reducible repeat (first | refine blk_drewN ?_ _ | refine blk_drew ?_ | refine blk_alloc ?_ _)); exact BK1514.out)) : gb1518 ≠ gb1514)); clear BK1514; clear HB; have BK1514 := n0_; have HB := n1_; have BK1518 := n2_; have GW1518 := n3_; have GE1518 := n4_; have NB1514_1518 := n5_; have NB1518_1514 := n6_; clear n0_ n1_ n2_ n3_ n4_ n5_ n6_; clear hb hbox hg; have hnb73 := NB1518_1514.out; have hnc73 := NB1514_1518.out; have hcz74_0 : w72.cell? ⟨gb1518, 0, none⟩ = some (.int .i64 0) := (blk_cell BK1518.out 0).trans rfl; have hcz74_1 : w72.cell? ⟨gb1518, 1, none⟩ = some (.int .i64 0) := (blk_cell BK1518.out 1).trans rfl; have hcz74_2 : w72.cell? ⟨gb1518, 2, none⟩ = some (.int .i64 0) := (blk_cell BK1518.out 2).trans rfl; have hfz74_0 := blk_frozen BK1518.out 0; have hfz74_1 := blk_frozen BK1518.out 1; have hfz74_2 := blk_frozen BK1518.out 2; have hcz75_0 : w72.cell? ⟨gb1514, 0, none⟩ = some (.int .i64 t1512) := (blk_cell BK1514.out 0).trans rfl; have hcz75_1 : w72.cell? ⟨gb1514, 1, none⟩ = some (.int .i64 t1513) := (blk_cell BK1514.out 1).trans rfl; have hfz75_0 := blk_frozen BK1514.out 0; have hfz75_1 := blk_frozen BK1514.out 1) | ((with_reducible refine gate_callee (f := 74) rfl ?_); refine goesL_ (some 43) rfl rfl Try.func74 (by kernel_rfl) rfl #[.agg #[.int .i64 x7_1, .int .i64 t1517, .int .i64 4], .agg #[.int .i64 t1512, .int .i64 t1513]] rfl (by (try simp only [List.map_toArray, List.map_cons, List.map_nil]); first | done | rfl | (simp only [List.length_drop, List.length_take]; rfl)) ?_; (with_reducible refine (impl_MoveNote.calls k1 x7_1 t1517 4 t1512 t1513 t1519 t1520 t1521 false _ A14.out).mono ?_); rintro e w76 ⟨rfl, hb⟩; refine ⟨_, rfl, ?_⟩; have n0_ := Aside0.mk (blk_below (g := gb1514) (o := .cells #[.int .i64 t1512, .int .i64 t1513] 88 (0, 0)) (by (with_reducible repeat (first | refine blk_drewN ?_ _ | refine blk_drew ?_ | refine blk_alloc ?_ _)); refine blk_far ?_ NB1514_1518.out _; (with_reducible repeat (first | refine blk_drewN ?_ _ | refine blk_drew ?_ | refine blk_alloc ?_ _)); refine blk_far ?_ NB1514_1518.out _; (with_reducible repeat (first | refine blk_drewN ?_ _ | refine blk_drew ?_ | refine blk_alloc ?_ _)); refine blk_far ?_ NB1514_1518.out _; (with_reducible repeat (first | refine blk_drewN ?_ _ | refine blk_drew ?_ | refine blk_alloc ?_ _)); exact BK1514.out) hb); have n1_ := Aside0.mk (blk_below (g := gb1518) (o := .cells #[.int .i64 x7_1, .int .i64 t1517, .int .i64 4] 64 (0, 0)) (by (with_reducible repeat (first | refine blk_drewN ?_ _ | refine blk_drew ?_ | refine blk_alloc ?_ _)); refine blk_put (cs := #[.int .i64 x7_1, .int .i64 t1517, .int .i64 0]) ?_ 2 _ rfl; (with_reducible repeat (first | refine blk_drewN ?_ _ | refine blk_drew ?_ | refine blk_alloc ?_ _)); refine blk_put (cs := #[.int .i64 x7_1, .int .i64 0, .int .i64 0]) ?_ 1 _ rfl; (with_reducible repeat (first | refine blk_drewN ?_ _ | refine blk_drew ?_ | refine blk_alloc ?_ _)); refine blk_put (cs := #[.int .i64 0, .int .i64 0, .int .i64 0]) ?_ 0 _ rfl; (with_reducible repeat (first | refine blk_drewN ?_ _ | refine blk_drew ?_ | refine blk_alloc ?_ _)); exact BK1518.out) hb); have n2_ := Aside0.mk (below_step (by repeat (first | (with_reducible first | exact HB.out | apply below_alloc | apply pw_below_drewN | apply below_drew1 | refine below_set ?_ GE1514.out | refine below_set ?_ GE1518.out) | exact HB.out)) hb); clear BK1514; clear BK1518; clear HB; have BK1514 := n0_; have BK1518 := n1_; have HB := n2_; clear n0_ n1_ n2_; (try clear hb); (try clear hb2); (try clear hk); (try clear hi)) | ((with_reducible refine gate_dst (N := 9) rfl ?_); refine box_event ?hg (N := 9) ?hd (cs := #[.int .i64 0, .int .i64 0, .int .i64 0]) (t := 64) ?hr ?_; (case hd => rfl); (case hg => rfl); (case hr => first | (go_simp; done) | (go_simp; rfl)); intro gb1523 hg w77 hbox hb; have n0_ := Aside0.mk (blk_below (g := gb1514) (o := .cells #[.int .i64 t1512, .int .i64 t1513] 88 (0, 0)) (by (with_reducible repeat (first | refine blk_drewN ?_ _ | refine blk_drew ?_ | refine blk_alloc ?_ _)); exact BK1514.out) hb); have n1_ := Aside0.mk (blk_below (g := gb1518) (o := .cells #[.int .i64 x7_1, .int .i64 t1517, .int .i64 4] 64 (0, 0)) (by (with_reducible repeat (first | refine blk_drewN ?_ _ | refine blk_drew ?_ | refine blk_alloc ?_ _)); exact BK1518.out) hb); have n2_ := Aside0.mk (below_step (by repeat (first | (with_reducible first | exact HB.out | apply below_alloc | apply pw_below_drewN | apply below_drew1 | refine below_set ?_ GE1514.out | refine below_set ?_ GE1518.out) | exact HB.out)) hb); have n3_ := Aside0.mk (hbox); have n4_ := Aside0.mk ((by rw [hg]; exact (below_size (by repeat (first | (with_reducible first | exact HB.out | apply below_alloc | apply pw_below_drewN | apply below_drew1 | refine below_set ?_ GE1514.out | refine below_set ?_ GE1518.out) | exact HB.out))) : w.heap.size ≤ gb1523)); have n5_ := Aside0.mk ((by rw [hg]; exact (below_size (by repeat (first | (with_reducible first | exact HB.out | apply below_alloc | apply pw_below_drewN | apply below_drew1 | refine below_set ?_ GE1514.out | refine below_set ?_ GE1518.out) | exact HB.out))) : w.heap.size ≤ gb1523)); have n6_ := Aside0.mk ((by rw [hg]; exact Nat.ne_of_lt (blk_lt (g := gb1514) (o := .cells #[.int .i64 t1512, .int .i64 t1513] 88 (0, 0)) (by (with_reducible repeat (first | refine blk_drewN ?_ _ | refine blk_drew ?_ | refine blk_alloc ?_ _)); exact BK1514.out)) : gb1514 ≠ gb1523)); have n7_ := Aside0.mk ((by rw [hg]; exact Nat.ne_of_gt (blk_lt (g := gb1514) (o := .cells #[.int .i64 t1512, .int .i64 t1513] 88 (0, 0)) (by (with_reducible repeat (first | refine blk_drewN ?_ _ | refine blk_drew ?_ | refine blk_alloc ?_ _)); exact BK1514.out)) : gb1523 ≠ gb1514)); have n8_ := Aside0.mk ((by rw [hg]; exact Nat.ne_of_lt (blk_lt (g := gb1518) (o := .cells #[.int .i64 x7_1, .int .i64 t1517, .int .i64 4] 64 (0, 0)) (by (with_reducible repeat (first | refine blk_drewN ?_ _ | refine blk_drew ?_ | refine blk_alloc ?_ _)); exact BK1518.out)) : gb1518 ≠ gb1523)); have n9_ := Aside0.mk ((by rw [hg]; exact Nat.ne_of_gt (blk_lt (g := gb1518) (o := .cells #[.int .i64 x7_1, .int .i64 t1517, .int .i64 4] 64 (0, 0)) (by (with_reducible repeat (first | refine blk_drewN ?_ _ | refine blk_drew ?_ | refine blk_alloc ?_ _)); exact BK1518.out)) : gb1523 ≠ gb1518)); clear BK1514; clear BK1518; clear HB; have BK1514 := n0_; have BK1518 := n1_; have HB := n2_; have BK1523 := n3_; have GW1523 := n4_; have GE1523 := n5_; have NB1514_1523 := n6_; have NB1523_1514 := n7_; have NB1518_1523 := n8_; have NB1523_1518 := n9_; clear n0_ n1_ n2_ n3_ n4_ n5_ n6_ n7_ n8_ n9_; clear hb hbox hg; have hnb78 := NB1523_1514.out; have hnc78 := NB1514_1523.out; have hnb79 := NB1523_1518.out; have hnc79 := NB1518_1523.out; have hcz80_0 : w77.cell? ⟨gb1523, 0, none⟩ = some (.int .i64 0) := (blk_cell BK1523.out 0).trans rfl; have hcz80_1 : w77.cell? ⟨gb1523, 1, none⟩ = some (.int .i64 0) := (blk_cell BK1523.out 1).trans rfl; have hcz80_2 : w77.cell? ⟨gb1523, 2, none⟩ = some (.int .i64 0) := (blk_cell BK1523.out 2).trans rfl; have hfz80_0 := blk_frozen BK1523.out 0; have hfz80_1 := blk_frozen BK1523.out 1; have hfz80_2 := blk_frozen BK1523.out 2; have hcz81_0 : w77.cell? ⟨gb1518, 0, none⟩ = some (.int .i64 x7_1) := (blk_cell BK1518.out 0).trans rfl; have hcz81_1 : w77.cell? ⟨gb1518, 1, none⟩ = some (.int .i64 t1517) := (blk_cell BK1518.out 1).trans rfl; have hcz81_2 : w77.cell? ⟨gb1518, 2, none⟩ = some (.int .i64 4) := (blk_cell BK1518.out 2).trans rfl; have hfz81_0 := blk_frozen BK1518.out 0; have hfz81_1 := blk_frozen BK1518.out 1; have hfz81_2 := blk_frozen BK1518.out 2) | (go_at_call 75; (with_reducible refine (impl_IsInKey.calls k1 t1511 x7_1 t1517 4 false _ A57.out).mono ?_); rintro e w82 ⟨rfl, hb⟩; have n0_ := Aside0.mk (blk_below (g := gb1514) (o := .cells #[.int .i64 t1512, .int .i64 t1513] 88 (0, 0)) (by (with_reducible repeat (first | refine blk_drewN ?_ _ | refine blk_drew ?_ | refine blk_alloc ?_ _)); refine blk_far ?_ NB1514_1523.out _; (with_reducible repeat (first | refine blk_drewN ?_ _ | refine blk_drew ?_ | refine blk_alloc ?_ _)); refine blk_far ?_ NB1514_1523.out _; (with_reducible repeat (first | refine blk_drewN ?_ _ | refine blk_drew ?_ | refine blk_alloc ?_ _)); refine blk_far ?_ NB1514_1523.out _; (with_reducible repeat (first | refine blk_drewN ?_ _ | refine blk_drew ?_ | refine blk_alloc ?_ _)); exact BK1514.out) hb); have n1_ := Aside0.mk (blk_below (g := gb1518) (o := .cells #[.int .i64 x7_1, .int .i64 t1517, .int .i64 4] 64 (0, 0)) (by (with_reducible repeat (first | refine blk_drewN ?_ _ | refine blk_drew ?_ | refine blk_alloc ?_ _)); refine blk_far ?_ NB1518_1523.out _; (with_reducible repeat (first | refine blk_drewN ?_ _ | refine blk_drew ?_ | refine blk_alloc ?_ _)); refine blk_far ?_ NB1518_1523.out _; (with_reducible repeat (first | refine blk_drewN ?_ _ | refine blk_drew ?_ | refine blk_alloc ?_ _)); refine blk_far ?_ NB1518_1523.out _; (with_reducible repeat (first | refine blk_drewN ?_ _ | refine blk_drew ?_ | refine blk_alloc ?_ _)); exact BK1518.out) hb); have n2_ := Aside0.mk (blk_below (g := gb1523) (o := .cells #[.int .i64 t1519, .int .i64 t1520, .int .i64 t1521] 64 (0, 0)) (by (with_reducible repeat (first | refine blk_drewN ?_ _ | refine blk_drew ?_ | refine blk_alloc ?_ _)); refine blk_put (cs := #[.int .i64 t1519, .int .i64 t1520, .int .i64 0]) ?_ 2 _ rfl; (with_reducible repeat (first | refine blk_drewN ?_ _ | refine blk_drew ?_ | refine blk_alloc ?_ _)); refine blk_put (cs := #[.int .i64 t1519, .int .i64 0, .int .i64 0]) ?_ 1 _ rfl; (with_reducible repeat (first | refine blk_drewN ?_ _ | refine blk_drew ?_ | refine blk_alloc ?_ _)); refine blk_put (cs := #[.int .i64 0, .int .i64 0, .int .i64 0]) ?_ 0 _ rfl; (with_reducible repeat (first | refine blk_drewN ?_ _ | refine blk_drew ?_ | refine blk_alloc ?_ _)); exact BK1523.out) hb); have n3_ := Aside0.mk (below_step (by repeat (first | (with_reducible first | exact HB.out | apply below_alloc | apply pw_below_drewN | apply below_drew1 | refine below_set ?_ GE1514.out | refine below_set ?_ GE1518.out | refine below_set ?_ GE1523.out) | exact HB.out)) hb); clear BK1514; clear BK1518; clear BK1523; clear HB; have BK1514 := n0_; have BK1518 := n1_; have BK1523 := n2_; have HB := n3_; clear n0_ n1_ n2_ n3_; (try clear hb); (try clear hb2); (try clear hk); (try clear hi)))
         go_ret
         exact ⟨by first | rfl | (simp [errW_none, errW_some] <;> rfl) | (simp [*, errW_none, errW_some] <;> rfl), by repeat (first | (with_reducible first | exact HB.out | apply below_alloc | apply pw_below_drewN | apply below_drew1 | refine below_set ?_ GE1514.out | refine below_set ?_ GE1518.out | refine below_set ?_ GE1523.out) | exact HB.out)⟩
      ·
       rw [if_neg c12] at H
       have c12b0 : decide (x7_1 < 7) = false := decide_eq_false c12
       clear c12
       (first | rw [c12b0] | (simp only [i64_w, i32_w]; rw [c12b0]) | skip)
       replace H := Option.bind_eq_some_iff.mp H
       obtain ⟨t1527, A830, H⟩ := H
       try dsimp only at H
       have A83 := Aside0.mk A830
       clear A830
       by_cases c84 : t1527 < 0
       ·
        rw [if_pos c84] at H
        have c84b0 : decide (t1527 < 0) = true := decide_eq_true c84
        clear c84
        obtain rfl := Option.some.inj H
        go_wp2_with (first | ((with_reducible refine gate_callee (f := 76) rfl ?_); refine goesL_ (some 60) rfl rfl Try.func76 (by kernel_rfl) rfl #[.int .i64 t1515] rfl (by (try simp only [List.map_toArray, List.map_cons, List.map_nil]); first | done | rfl | (simp only [List.length_drop, List.length_take]; rfl)) ?_; (with_reducible refine (impl_TonicOf.calls t1515 t1527 _ A83.out).mono ?_); rintro e w' ⟨rfl, ⟨nd, rfl⟩⟩; refine ⟨_, rfl, ?_⟩))
        go_ret
        exact ⟨by first | rfl | (simp [errW_none, errW_some] <;> rfl) | (simp [*, errW_none, errW_some] <;> rfl), by repeat (first | (with_reducible first | exact HB.out | apply below_alloc | apply pw_below_drewN | apply below_drew1 | refine below_set ?_ GE1514.out) | exact HB.out)⟩
       ·
        rw [if_neg c84] at H
        have c84b0 : decide (t1527 < 0) = false := decide_eq_false c84
        clear c84
        replace H := Option.bind_eq_some_iff.mp H
        obtain ⟨t1528, A850, H⟩ := H
        try dsimp only at H
        have A85 := Aside0.mk A850
        clear A850
        by_cases c86 : t1528 > 11
        ·
         rw [if_pos c86] at H
         have c86b0 : decide (11 < t1528) = true := decide_eq_true c86
         clear c86
         obtain rfl := Option.some.inj H
         go_wp2_with (first | ((with_reducible refine gate_callee (f := 76) rfl ?_); refine goesL_ (some 60) rfl rfl Try.func76 (by kernel_rfl) rfl #[.int .i64 t1515] rfl (by (try simp only [List.map_toArray, List.map_cons, List.map_nil]); first | done | rfl | (simp only [List.length_drop, List.length_take]; rfl)) ?_; (with_reducible refine (impl_TonicOf.calls t1515 t1527 _ A83.out).mono ?_); rintro e w' ⟨rfl, ⟨nd, rfl⟩⟩; refine ⟨_, rfl, ?_⟩) | (go_at_call 76; (with_reducible refine (impl_TonicOf.calls t1515 t1528 _ A85.out).mono ?_); rintro e w' ⟨rfl, ⟨nd, rfl⟩⟩))
         go_ret
         exact ⟨by first | rfl | (simp [errW_none, errW_some] <;> rfl) | (simp [*, errW_none, errW_some] <;> rfl), by repeat (first | (with_reducible first | exact HB.out | apply below_alloc | apply pw_below_drewN | apply below_drew1 | refine below_set ?_ GE1514.out) | exact HB.out)⟩
        ·
         rw [if_neg c86] at H
         have c86b0 : decide (11 < t1528) = false := decide_eq_false c86
         clear c86
         have H' := Aside0.mk H
         clear H
         go_wp2_with (first | ((with_reducible refine gate_callee (f := 76) rfl ?_); refine goesL_ (some 60) rfl rfl Try.func76 (by kernel_rfl) rfl #[.int .i64 t1515] rfl (by (try simp only [List.map_toArray, List.map_cons, List.map_nil]); first | done | rfl | (simp only [List.length_drop, List.length_take]; rfl)) ?_; (with_reducible refine (impl_TonicOf.calls t1515 t1527 _ A83.out).mono ?_); rintro e w' ⟨rfl, ⟨nd, rfl⟩⟩; refine ⟨_, rfl, ?_⟩) | (go_at_call 76; (with_reducible refine (impl_TonicOf.calls t1515 t1528 _ A85.out).mono ?_); rintro e w' ⟨rfl, ⟨nd, rfl⟩⟩))
         go_meet
         case rel => exact ⟨_, H', ⟨by have := HK1.out; first | omega | exact Nat.le_refl _⟩, ⟨by (with_reducible repeat (first | refine blk_drewN ?_ _ | refine blk_drew ?_ | refine blk_alloc ?_ _)); exact BK1514.out⟩, ⟨by repeat (first | (with_reducible first | exact HB.out | apply below_alloc | apply pw_below_drewN | apply below_drew1 | refine below_set ?_ GE1514.out) | exact HB.out)⟩⟩
   ·
    replace c11 := Bool.eq_false_iff.mpr c11
    subst c11
    rw [if_neg (show ¬ (false = true) by decide)] at H
    have H' := Aside0.mk H
    clear H
    go_wp2
    go_meet
    case rel => exact ⟨_, H', ⟨by first | omega | exact Nat.le_refl _⟩, ⟨by (with_reducible repeat (first | refine blk_drewN ?_ _ | refine blk_drew ?_ | refine blk_alloc ?_ _)); exact BK1514.out⟩, ⟨by repeat (first | (with_reducible first | exact HB.out | apply below_alloc | apply pw_below_drewN | apply below_drew1 | refine below_set ?_ GE1514.out) | exact HB.out)⟩⟩
  case rest =>
   clear HC6
   try clear c1
   try clear c2
   try clear p2
   try clear c3
   try clear c4
   try clear c5
   try clear c6
   try clear p6
   try clear c7
   try clear c8
   try clear c11
   try clear c12
   try clear c12b0
   try clear c14
   try clear c15
   try clear c17
   try clear c19
   try clear c22
   try clear c27
   try clear c28
   try clear c35
   try clear c40
   try clear c41
   try clear c48
   try clear c53
   try clear c54
   try clear c58
   try clear c61
   try clear c62
   try clear p64
   try clear c66
   try clear c67
   try clear c71
   try clear c72
   try clear c73
   try clear c74
   try clear c76
   try clear c78
   try clear c79
   try clear c84
   try clear c84b0
   try clear c86
   try clear c86b0
   try clear hcz23_0
   try clear hcz23_1
   try clear hcz23_2
   try clear hcz24_0
   try clear hcz24_1
   try clear hcz29_0
   try clear hcz29_1
   try clear hcz29_2
   try clear hcz31_0
   try clear hcz31_1
   try clear hcz31_2
   try clear hcz36_0
   try clear hcz36_1
   try clear hcz36_2
   try clear hcz37_0
   try clear hcz37_1
   try clear hcz42_0
   try clear hcz42_1
   try clear hcz42_2
   try clear hcz44_0
   try clear hcz44_1
   try clear hcz44_2
   try clear hcz49_0
   try clear hcz49_1
   try clear hcz49_2
   try clear hcz50_0
   try clear hcz50_1
   try clear hcz55_0
   try clear hcz55_1
   try clear hcz55_2
   try clear hcz62_0
   try clear hcz62_1
   try clear hcz62_2
   try clear hcz63_0
   try clear hcz63_1
   try clear hcz68_0
   try clear hcz68_1
   try clear hcz68_2
   try clear hcz69_0
   try clear hcz69_1
   try clear hcz69_2
   try clear hcz74_0
   try clear hcz74_1
   try clear hcz74_2
   try clear hcz75_0
   try clear hcz75_1
   try clear hcz80_0
   try clear hcz80_1
   try clear hcz80_2
   try clear hcz81_0
   try clear hcz81_1
   try clear hcz81_2
   try clear hcz9_0
   try clear hcz9_1
   try clear hfz23_0
   try clear hfz23_1
   try clear hfz23_2
   try clear hfz24_0
   try clear hfz24_1
   try clear hfz29_0
   try clear hfz29_1
   try clear hfz29_2
   try clear hfz31_0
   try clear hfz31_1
   try clear hfz31_2
   try clear hfz36_0
   try clear hfz36_1
   try clear hfz36_2
   try clear hfz37_0
   try clear hfz37_1
   try clear hfz42_0
   try clear hfz42_1
   try clear hfz42_2
   try clear hfz44_0
   try clear hfz44_1
   try clear hfz44_2
   try clear hfz49_0
   try clear hfz49_1
   try clear hfz49_2
   try clear hfz50_0
   try clear hfz50_1
   try clear hfz55_0
   try clear hfz55_1
   try clear hfz55_2
   try clear hfz62_0
   try clear hfz62_1
   try clear hfz62_2
   try clear hfz63_0
   try clear hfz63_1
   try clear hfz68_0
   try clear hfz68_1
   try clear hfz68_2
   try clear hfz69_0
   try clear hfz69_1
   try clear hfz69_2
   try clear hfz74_0
   try clear hfz74_1
   try clear hfz74_2
   try clear hfz75_0
   try clear hfz75_1
   try clear hfz80_0
   try clear hfz80_1
   try clear hfz80_2
   try clear hfz81_0
   try clear hfz81_1
   try clear hfz81_2
   try clear hfz9_0
   try clear hfz9_1
   try clear p2
   obtain ⟨kq, HA, HJ5, BK1514, HB⟩ := hcut
   cases kq with
   | zero => exact absurd HA.out (by simp [laws_FnKeys.j1])
   | succ kj5 =>
    have H := HA.out
    clear HA
    simp only [laws_FnKeys.j1] at H
    replace H := Option.bind_eq_some_iff.mp H
    obtain ⟨⟨t1529, t1530⟩, A870, H⟩ := H
    try dsimp only at H
    have A87 := Aside0.mk A870
    clear A870
    replace H := Option.bind_eq_some_iff.mp H
    obtain ⟨⟨t1531, t1532, t1533, t1534⟩, A880, H⟩ := H
    try dsimp only at H
    have A88 := Aside0.mk A880
    clear A880
    have HC89 := Aside0.mk H
    clear H
    go_upto_region 17 with (first | ((with_reducible refine gate_callee (f := 77) rfl ?_); refine goesL_ (some 69) rfl rfl Try.func77 (by kernel_rfl) rfl #[.slice A0 l0.length c0] rfl (by (try simp only [List.map_toArray, List.map_cons, List.map_nil]); first | done | rfl | (simp only [List.length_drop, List.length_take]; rfl)) ?_; (with_reducible refine (spec_DrawSpellIn.calls kj5 _ _ l0 t1529 t1530 _ ?side1 ?side2 A87.out).mono ?_); (case side1 => repeat (first | exact (Kd.C_below HR0.out HB.out) | (with_reducible refine Kd.C_alloc ?_ _) | (with_reducible refine Kd.C_drewN ?_ _) | (with_reducible refine Kd.C_drew ?_))); (case side2 => exact HC0.out); rintro e w90 ⟨rfl, hb⟩; refine ⟨_, rfl, ?_⟩; have n0_ := Aside0.mk (blk_below (g := gb1514) (o := .cells #[.int .i64 t1512, .int .i64 t1513] 88 (0, 0)) (by (with_reducible repeat (first | refine blk_drewN ?_ _ | refine blk_drew ?_ | refine blk_alloc ?_ _)); exact BK1514.out) hb); have n1_ := Aside0.mk (below_step (by repeat (first | (with_reducible first | exact HB.out | apply below_alloc | apply pw_below_drewN | apply below_drew1 | refine below_set ?_ GE1514.out) | exact HB.out)) hb); clear BK1514; clear HB; have BK1514 := n0_; have HB := n1_; clear n0_ n1_; (try clear hb); (try clear hb2); (try clear hk); (try clear hi)) | ((with_reducible refine gate_callee (f := 52) rfl ?_); refine goesL_ (some 75) rfl rfl Try.func52 (by kernel_rfl) rfl #[.int .i64 t1529, .int .i64 t1530] rfl (by (try simp only [List.map_toArray, List.map_cons, List.map_nil]); first | done | rfl | (simp only [List.length_drop, List.length_take]; rfl)) ?_; (with_reducible refine (impl_SpellIn.calls t1529 t1530 t1531 t1532 t1533 t1534 _ A88.out).mono ?_); rintro e w91 ⟨rfl, hb⟩; refine ⟨_, rfl, ?_⟩; have n0_ := Aside0.mk (blk_below (g := gb1514) (o := .cells #[.int .i64 t1512, .int .i64 t1513] 88 (0, 0)) (by (with_reducible repeat (first | refine blk_drewN ?_ _ | refine blk_drew ?_ | refine blk_alloc ?_ _)); exact BK1514.out) hb); have n1_ := Aside0.mk (below_step (by repeat (first | (with_reducible first | exact HB.out | apply below_alloc | apply pw_below_drewN | apply below_drew1 | refine below_set ?_ GE1514.out) | exact HB.out)) hb); clear BK1514; clear HB; have BK1514 := n0_; have HB := n1_; clear n0_ n1_; (try clear hb); (try clear hb2); (try clear hk); (try clear hi)) | ((with_reducible refine gate_dst (N := 13) rfl ?_); refine box_event ?hg (N := 13) ?hd (cs := #[.int .i64 0, .int .i64 0, .int .i64 0]) (t := 64) ?hr ?_; (case hd => rfl); (case hg => rfl); (case hr => first | (go_simp; done) | (go_simp; rfl)); intro gb1535 hg w92 hbox hb; have n0_ := Aside0.mk (blk_below (g := gb1514) (o := .cells #[.int .i64 t1512, .int .i64 t1513] 88 (0, 0)) (by (with_reducible repeat (first | refine blk_drewN ?_ _ | refine blk_drew ?_ | refine blk_alloc ?_ _)); exact BK1514.out) hb); have n1_ := Aside0.mk (below_step (by repeat (first | (with_reducible first | exact HB.out | apply below_alloc | apply pw_below_drewN | apply below_drew1 | refine below_set ?_ GE1514.out) | exact HB.out)) hb); have n2_ := Aside0.mk (hbox); have n3_ := Aside0.mk ((by rw [hg]; exact (below_size (by repeat (first | (with_reducible first | exact HB.out | apply below_alloc | apply pw_below_drewN | apply below_drew1 | refine below_set ?_ GE1514.out) | exact HB.out))) : w.heap.size ≤ gb1535)); have n4_ := Aside0.mk ((by rw [hg]; exact (below_size (by repeat (first | (with_reducible first | exact HB.out | apply below_alloc | apply pw_below_drewN | apply below_drew1 | refine below_set ?_ GE1514.out) | exact HB.out))) : w.heap.size ≤ gb1535)); have n5_ := Aside0.mk ((by rw [hg]; exact Nat.ne_of_lt (blk_lt (g := gb1514) (o := .cells #[.int .i64 t1512, .int .i64 t1513] 88 (0, 0)) (by (with_reducible repeat (first | refine blk_drewN ?_ _ | refine blk_drew ?_ | refine blk_alloc ?_ _)); exact BK1514.out)) : gb1514 ≠ gb1535)); have n6_ := Aside0.mk ((by rw [hg]; exact Nat.ne_of_gt (blk_lt (g := gb1514) (o := .cells #[.int .i64 t1512, .int .i64 t1513] 88 (0, 0)) (by (with_reducible repeat (first | refine blk_drewN ?_ _ | refine blk_drew ?_ | refine blk_alloc ?_ _)); exact BK1514.out)) : gb1535 ≠ gb1514)); clear BK1514; clear HB; have BK1514 := n0_; have HB := n1_; have BK1535 := n2_; have GW1535 := n3_; have GE1535 := n4_; have NB1514_1535 := n5_; have NB1535_1514 := n6_; clear n0_ n1_ n2_ n3_ n4_ n5_ n6_; clear hb hbox hg; have hnb93 := NB1535_1514.out; have hnc93 := NB1514_1535.out; have hcz94_0 : w92.cell? ⟨gb1535, 0, none⟩ = some (.int .i64 0) := (blk_cell BK1535.out 0).trans rfl; have hcz94_1 : w92.cell? ⟨gb1535, 1, none⟩ = some (.int .i64 0) := (blk_cell BK1535.out 1).trans rfl; have hcz94_2 : w92.cell? ⟨gb1535, 2, none⟩ = some (.int .i64 0) := (blk_cell BK1535.out 2).trans rfl; have hfz94_0 := blk_frozen BK1535.out 0; have hfz94_1 := blk_frozen BK1535.out 1; have hfz94_2 := blk_frozen BK1535.out 2))
    (try simp only [Act.put, List.setIfInBounds_toArray, List.set_cons_zero, List.set_cons_succ])
    go_cut [84] (fun v84 wc => ∃ (kq : Nat) (x84_88 : Bool), v84 = .bool x84_88 ∧ Aside0 (laws_FnKeys.j2 kq t1511 x84_88 = some r) ∧ Aside0 (kq ≤ kj5) ∧ Aside0 (wc.heap[gb1514]? = some (.cells #[.int .i64 t1512, .int .i64 t1513] 88 (0, 0))) ∧ Aside0 (wc.heap[gb1535]? = some (.cells #[.int .i64 t1531, .int .i64 t1532, .int .i64 t1533] 64 (0, 0))) ∧ Aside0 (Below w.heap.size w wc))
    case first =>
     have H := HC89.out
     clear HC89
     by_cases c95 : t1534 = true
     ·
      subst c95
      rw [if_pos rfl] at H
      replace H := Option.bind_eq_some_iff.mp H
      obtain ⟨t1536, A960, H⟩ := H
      try dsimp only at H
      have A96 := Aside0.mk A960
      clear A960
      have H' := Aside0.mk H
      clear H
      have hnb97 := NB1535_1514.out
      have hnc97 := NB1514_1535.out
      have hcz98_0 : w92.cell? ⟨gb1535, 0, none⟩ = some (.int .i64 0) := (blk_cell BK1535.out 0).trans rfl
      have hcz98_1 : w92.cell? ⟨gb1535, 1, none⟩ = some (.int .i64 0) := (blk_cell BK1535.out 1).trans rfl
      have hcz98_2 : w92.cell? ⟨gb1535, 2, none⟩ = some (.int .i64 0) := (blk_cell BK1535.out 2).trans rfl
      have hfz98_0 := blk_frozen BK1535.out 0
      have hfz98_1 := blk_frozen BK1535.out 1
      have hfz98_2 := blk_frozen BK1535.out 2
      go_wp2_with (first | (go_at_call 78; (with_reducible refine (impl_PitchOf.calls t1531 t1532 t1533 t1536 _ A96.out).mono ?_); rintro e w99 ⟨rfl, hb⟩; have n0_ := Aside0.mk (blk_below (g := gb1514) (o := .cells #[.int .i64 t1512, .int .i64 t1513] 88 (0, 0)) (by (with_reducible repeat (first | refine blk_drewN ?_ _ | refine blk_drew ?_ | refine blk_alloc ?_ _)); refine blk_far ?_ NB1514_1535.out _; (with_reducible repeat (first | refine blk_drewN ?_ _ | refine blk_drew ?_ | refine blk_alloc ?_ _)); refine blk_far ?_ NB1514_1535.out _; (with_reducible repeat (first | refine blk_drewN ?_ _ | refine blk_drew ?_ | refine blk_alloc ?_ _)); refine blk_far ?_ NB1514_1535.out _; (with_reducible repeat (first | refine blk_drewN ?_ _ | refine blk_drew ?_ | refine blk_alloc ?_ _)); exact BK1514.out) hb); have n1_ := Aside0.mk (blk_below (g := gb1535) (o := .cells #[.int .i64 t1531, .int .i64 t1532, .int .i64 t1533] 64 (0, 0)) (by (with_reducible repeat (first | refine blk_drewN ?_ _ | refine blk_drew ?_ | refine blk_alloc ?_ _)); refine blk_put (cs := #[.int .i64 t1531, .int .i64 t1532, .int .i64 0]) ?_ 2 _ rfl; (with_reducible repeat (first | refine blk_drewN ?_ _ | refine blk_drew ?_ | refine blk_alloc ?_ _)); refine blk_put (cs := #[.int .i64 t1531, .int .i64 0, .int .i64 0]) ?_ 1 _ rfl; (with_reducible repeat (first | refine blk_drewN ?_ _ | refine blk_drew ?_ | refine blk_alloc ?_ _)); refine blk_put (cs := #[.int .i64 0, .int .i64 0, .int .i64 0]) ?_ 0 _ rfl; (with_reducible repeat (first | refine blk_drewN ?_ _ | refine blk_drew ?_ | refine blk_alloc ?_ _)); exact BK1535.out) hb); have n2_ := Aside0.mk (below_step (by repeat (first | (with_reducible first | exact HB.out | apply below_alloc | apply pw_below_drewN | apply below_drew1 | refine below_set ?_ GE1514.out | refine below_set ?_ GE1535.out) | exact HB.out)) hb); clear BK1514; clear BK1535; clear HB; have BK1514 := n0_; have BK1535 := n1_; have HB := n2_; clear n0_ n1_ n2_; (try clear hb); (try clear hb2); (try clear hk); (try clear hi)))
      go_meet
      case rel => exact ⟨_, ((t1536 != t1530)), (by first | rfl | (simp; done) | (simp [*]; done)), H', ⟨by have := HJ5.out; first | omega | exact Nat.le_refl _⟩, ⟨by (with_reducible repeat (first | refine blk_drewN ?_ _ | refine blk_drew ?_ | refine blk_alloc ?_ _)); exact BK1514.out⟩, ⟨by (with_reducible repeat (first | refine blk_drewN ?_ _ | refine blk_drew ?_ | refine blk_alloc ?_ _)); exact BK1535.out⟩, ⟨by repeat (first | (with_reducible first | exact HB.out | apply below_alloc | apply pw_below_drewN | apply below_drew1 | refine below_set ?_ GE1514.out | refine below_set ?_ GE1535.out) | exact HB.out)⟩⟩
     ·
      replace c95 := Bool.eq_false_iff.mpr c95
      subst c95
      rw [if_neg (show ¬ (false = true) by decide)] at H
      have H' := Aside0.mk H
      clear H
      go_wp2
      go_meet
      case rel => exact ⟨_, (false), (by first | rfl | (simp; done) | (simp [*]; done)), H', ⟨by have := HJ5.out; first | omega | exact Nat.le_refl _⟩, ⟨by (with_reducible repeat (first | refine blk_drewN ?_ _ | refine blk_drew ?_ | refine blk_alloc ?_ _)); refine blk_far ?_ NB1514_1535.out _; (with_reducible repeat (first | refine blk_drewN ?_ _ | refine blk_drew ?_ | refine blk_alloc ?_ _)); refine blk_far ?_ NB1514_1535.out _; (with_reducible repeat (first | refine blk_drewN ?_ _ | refine blk_drew ?_ | refine blk_alloc ?_ _)); refine blk_far ?_ NB1514_1535.out _; (with_reducible repeat (first | refine blk_drewN ?_ _ | refine blk_drew ?_ | refine blk_alloc ?_ _)); exact BK1514.out⟩, ⟨by (with_reducible repeat (first | refine blk_drewN ?_ _ | refine blk_drew ?_ | refine blk_alloc ?_ _)); refine blk_put (cs := #[.int .i64 t1531, .int .i64 t1532, .int .i64 0]) ?_ 2 _ rfl; (with_reducible repeat (first | refine blk_drewN ?_ _ | refine blk_drew ?_ | refine blk_alloc ?_ _)); refine blk_put (cs := #[.int .i64 t1531, .int .i64 0, .int .i64 0]) ?_ 1 _ rfl; (with_reducible repeat (first | refine blk_drewN ?_ _ | refine blk_drew ?_ | refine blk_alloc ?_ _)); refine blk_put (cs := #[.int .i64 0, .int .i64 0, .int .i64 0]) ?_ 0 _ rfl; (with_reducible repeat (first | refine blk_drewN ?_ _ | refine blk_drew ?_ | refine blk_alloc ?_ _)); exact BK1535.out⟩, ⟨by repeat (first | (with_reducible first | exact HB.out | apply below_alloc | apply pw_below_drewN | apply below_drew1 | refine below_set ?_ GE1514.out | refine below_set ?_ GE1535.out) | exact HB.out)⟩⟩
    case rest =>
     clear HC89
     try clear c1
     try clear c2
     try clear p2
     try clear c3
     try clear c4
     try clear c5
     try clear c6
     try clear p6
     try clear c7
     try clear c8
     try clear c9
     try clear c11
     try clear c12
     try clear c12b0
     try clear c14
     try clear c15
     try clear c17
     try clear c19
     try clear c22
     try clear c27
     try clear c28
     try clear c35
     try clear c40
     try clear c41
     try clear c48
     try clear c52
     try clear c53
     try clear c54
     try clear c58
     try clear c61
     try clear c62
     try clear p64
     try clear c66
     try clear c67
     try clear c71
     try clear c72
     try clear c73
     try clear c74
     try clear c76
     try clear c77
     try clear c78
     try clear c79
     try clear c84
     try clear c84b0
     try clear c86
     try clear c86b0
     try clear c93
     try clear c95
     try clear c97
     try clear hcz23_0
     try clear hcz23_1
     try clear hcz23_2
     try clear hcz24_0
     try clear hcz24_1
     try clear hcz29_0
     try clear hcz29_1
     try clear hcz29_2
     try clear hcz31_0
     try clear hcz31_1
     try clear hcz31_2
     try clear hcz36_0
     try clear hcz36_1
     try clear hcz36_2
     try clear hcz37_0
     try clear hcz37_1
     try clear hcz42_0
     try clear hcz42_1
     try clear hcz42_2
     try clear hcz44_0
     try clear hcz44_1
     try clear hcz44_2
     try clear hcz49_0
     try clear hcz49_1
     try clear hcz49_2
     try clear hcz50_0
     try clear hcz50_1
     try clear hcz55_0
     try clear hcz55_1
     try clear hcz55_2
     try clear hcz62_0
     try clear hcz62_1
     try clear hcz62_2
     try clear hcz63_0
     try clear hcz63_1
     try clear hcz68_0
     try clear hcz68_1
     try clear hcz68_2
     try clear hcz69_0
     try clear hcz69_1
     try clear hcz69_2
     try clear hcz74_0
     try clear hcz74_1
     try clear hcz74_2
     try clear hcz75_0
     try clear hcz75_1
     try clear hcz80_0
     try clear hcz80_1
     try clear hcz80_2
     try clear hcz81_0
     try clear hcz81_1
     try clear hcz81_2
     try clear hcz94_0
     try clear hcz94_1
     try clear hcz94_2
     try clear hcz98_0
     try clear hcz98_1
     try clear hcz98_2
     try clear hcz9_0
     try clear hcz9_1
     try clear hfz23_0
     try clear hfz23_1
     try clear hfz23_2
     try clear hfz24_0
     try clear hfz24_1
     try clear hfz29_0
     try clear hfz29_1
     try clear hfz29_2
     try clear hfz31_0
     try clear hfz31_1
     try clear hfz31_2
     try clear hfz36_0
     try clear hfz36_1
     try clear hfz36_2
     try clear hfz37_0
     try clear hfz37_1
     try clear hfz42_0
     try clear hfz42_1
     try clear hfz42_2
     try clear hfz44_0
     try clear hfz44_1
     try clear hfz44_2
     try clear hfz49_0
     try clear hfz49_1
     try clear hfz49_2
     try clear hfz50_0
     try clear hfz50_1
     try clear hfz55_0
     try clear hfz55_1
     try clear hfz55_2
     try clear hfz62_0
     try clear hfz62_1
     try clear hfz62_2
     try clear hfz63_0
     try clear hfz63_1
     try clear hfz68_0
     try clear hfz68_1
     try clear hfz68_2
     try clear hfz69_0
     try clear hfz69_1
     try clear hfz69_2
     try clear hfz74_0
     try clear hfz74_1
     try clear hfz74_2
     try clear hfz75_0
     try clear hfz75_1
     try clear hfz80_0
     try clear hfz80_1
     try clear hfz80_2
     try clear hfz81_0
     try clear hfz81_1
     try clear hfz81_2
     try clear hfz94_0
     try clear hfz94_1
     try clear hfz94_2
     try clear hfz98_0
     try clear hfz98_1
     try clear hfz98_2
     try clear hfz9_0
     try clear hfz9_1
     try clear p2
     try clear p6
     try clear p64
     obtain ⟨kq, x84_88, rfl, HA, HJ88, BK1514, BK1535, HB⟩ := hcut
     cases kq with
     | zero => exact absurd HA.out (by simp [laws_FnKeys.j2])
     | succ kj88 =>
      have H := HA.out
      clear HA
      simp only [laws_FnKeys.j2] at H
      by_cases c100 : x84_88 = true
      ·
       subst c100
       rw [if_pos rfl] at H
       obtain rfl := Option.some.inj H
       go_wp2
       go_ret
       exact ⟨by first | rfl | (simp [errW_none, errW_some] <;> rfl) | (simp [*, errW_none, errW_some] <;> rfl), by repeat (first | (with_reducible first | exact HB.out | apply below_alloc | apply pw_below_drewN | apply below_drew1 | refine below_set ?_ GE1514.out | refine below_set ?_ GE1535.out) | exact HB.out)⟩
      ·
       replace c100 := Bool.eq_false_iff.mpr c100
       subst c100
       rw [if_neg (show ¬ (false = true) by decide)] at H
       have H' := Aside0.mk H
       clear H
       go_wp2
       go_loopg [15, 16] kj88 (fun kq v15 v16 w' => ∃ (x15_3 : Int) (x16_3 : Int), v15 = .int .i64 x15_3 ∧ v16 = .int .i64 x16_3 ∧ Aside0 (laws_FnKeys.l1 kq t1511 x15_3 x16_3 = some r) ∧ Aside0 (kq ≤ kj88) ∧ Aside0 (w'.heap[gb1514]? = some (.cells #[.int .i64 t1512, .int .i64 t1513] 88 (0, 0))) ∧ Aside0 (w'.heap[gb1535]? = some (.cells #[.int .i64 t1531, .int .i64 t1532, .int .i64 t1533] 64 (0, 0))) ∧ Aside0 (Below w.heap.size w w'))
       case atStart => exact ⟨(0), (0), (by first | rfl | (simp; done) | (simp [*]; done)), (by first | rfl | (simp; done) | (simp [*]; done)), H', ⟨Nat.le_refl _⟩, ⟨by (with_reducible repeat (first | refine blk_drewN ?_ _ | refine blk_drew ?_ | refine blk_alloc ?_ _)); exact BK1514.out⟩, ⟨by (with_reducible repeat (first | refine blk_drewN ?_ _ | refine blk_drew ?_ | refine blk_alloc ?_ _)); exact BK1535.out⟩, ⟨by repeat (first | (with_reducible first | exact HB.out | apply below_alloc | apply pw_below_drewN | apply below_drew1 | refine below_set ?_ GE1514.out | refine below_set ?_ GE1535.out) | exact HB.out)⟩⟩
       case round =>
        clear H'
        try clear c1
        try clear c2
        try clear p2
        try clear c3
        try clear c4
        try clear c5
        try clear c6
        try clear p6
        try clear c7
        try clear c8
        try clear c9
        try clear c10
        try clear c11
        try clear c12
        try clear c12b0
        try clear c14
        try clear c15
        try clear c17
        try clear c19
        try clear c22
        try clear c27
        try clear c28
        try clear c35
        try clear c40
        try clear c41
        try clear c48
        try clear c52
        try clear c53
        try clear c54
        try clear c58
        try clear c61
        try clear c62
        try clear p64
        try clear c66
        try clear c67
        try clear c71
        try clear c72
        try clear c73
        try clear c74
        try clear c76
        try clear c77
        try clear c78
        try clear c79
        try clear c84
        try clear c84b0
        try clear c86
        try clear c86b0
        try clear c93
        try clear c95
        try clear c97
        try clear c100
        try clear hcz23_0
        try clear hcz23_1
        try clear hcz23_2
        try clear hcz24_0
        try clear hcz24_1
        try clear hcz29_0
        try clear hcz29_1
        try clear hcz29_2
        try clear hcz31_0
        try clear hcz31_1
        try clear hcz31_2
        try clear hcz36_0
        try clear hcz36_1
        try clear hcz36_2
        try clear hcz37_0
        try clear hcz37_1
        try clear hcz42_0
        try clear hcz42_1
        try clear hcz42_2
        try clear hcz44_0
        try clear hcz44_1
        try clear hcz44_2
        try clear hcz49_0
        try clear hcz49_1
        try clear hcz49_2
        try clear hcz50_0
        try clear hcz50_1
        try clear hcz55_0
        try clear hcz55_1
        try clear hcz55_2
        try clear hcz62_0
        try clear hcz62_1
        try clear hcz62_2
        try clear hcz63_0
        try clear hcz63_1
        try clear hcz68_0
        try clear hcz68_1
        try clear hcz68_2
        try clear hcz69_0
        try clear hcz69_1
        try clear hcz69_2
        try clear hcz74_0
        try clear hcz74_1
        try clear hcz74_2
        try clear hcz75_0
        try clear hcz75_1
        try clear hcz80_0
        try clear hcz80_1
        try clear hcz80_2
        try clear hcz81_0
        try clear hcz81_1
        try clear hcz81_2
        try clear hcz94_0
        try clear hcz94_1
        try clear hcz94_2
        try clear hcz98_0
        try clear hcz98_1
        try clear hcz98_2
        try clear hcz9_0
        try clear hcz9_1
        try clear hfz23_0
        try clear hfz23_1
        try clear hfz23_2
        try clear hfz24_0
        try clear hfz24_1
        try clear hfz29_0
        try clear hfz29_1
        try clear hfz29_2
        try clear hfz31_0
        try clear hfz31_1
        try clear hfz31_2
        try clear hfz36_0
        try clear hfz36_1
        try clear hfz36_2
        try clear hfz37_0
        try clear hfz37_1
        try clear hfz42_0
        try clear hfz42_1
        try clear hfz42_2
        try clear hfz44_0
        try clear hfz44_1
        try clear hfz44_2
        try clear hfz49_0
        try clear hfz49_1
        try clear hfz49_2
        try clear hfz50_0
        try clear hfz50_1
        try clear hfz55_0
        try clear hfz55_1
        try clear hfz55_2
        try clear hfz62_0
        try clear hfz62_1
        try clear hfz62_2
        try clear hfz63_0
        try clear hfz63_1
        try clear hfz68_0
        try clear hfz68_1
        try clear hfz68_2
        try clear hfz69_0
        try clear hfz69_1
        try clear hfz69_2
        try clear hfz74_0
        try clear hfz74_1
        try clear hfz74_2
        try clear hfz75_0
        try clear hfz75_1
        try clear hfz80_0
        try clear hfz80_1
        try clear hfz80_2
        try clear hfz81_0
        try clear hfz81_1
        try clear hfz81_2
        try clear hfz94_0
        try clear hfz94_1
        try clear hfz94_2
        try clear hfz98_0
        try clear hfz98_1
        try clear hfz98_2
        try clear hfz9_0
        try clear hfz9_1
        try clear p2
        try clear p6
        try clear p64
        obtain ⟨x15_3, x16_3, rfl, rfl, HA, HK3, BK1514, BK1535, HB⟩ := hrel
        cases gk with
        | zero => exact absurd HA.out (by simp [laws_FnKeys.l1])
        | succ k3 =>
         have H := HA.out
         clear HA
         simp only [laws_FnKeys.l1] at H
         by_cases c101 : x16_3 < 7
         ·
          rw [if_pos c101] at H
          have c101b0 : decide (x16_3 < 7) = true := decide_eq_true c101
          clear c101
          replace H := Option.bind_eq_some_iff.mp H
          obtain ⟨t1537, A1020, H⟩ := H
          try dsimp only at H
          have A102 := Aside0.mk A1020
          clear A1020
          have H' := Aside0.mk H
          clear H
          go_wp2_with (first | ((with_reducible refine gate_callee (f := 73) rfl ?_); refine goesL_ (some 92) rfl rfl Try.func73 (by kernel_rfl) rfl #[.int .i64 t1511, .int .i64 x16_3] rfl (by (try simp only [List.map_toArray, List.map_cons, List.map_nil]); first | done | rfl | (simp only [List.length_drop, List.length_take]; rfl)) ?_; (with_reducible refine (impl_AlterIn.calls k3 t1511 x16_3 t1537 _ A102.out).mono ?_); rintro e w103 ⟨rfl, hb⟩; refine ⟨_, rfl, ?_⟩; have n0_ := Aside0.mk (blk_below (g := gb1514) (o := .cells #[.int .i64 t1512, .int .i64 t1513] 88 (0, 0)) (by (with_reducible repeat (first | refine blk_drewN ?_ _ | refine blk_drew ?_ | refine blk_alloc ?_ _)); exact BK1514.out) hb); have n1_ := Aside0.mk (blk_below (g := gb1535) (o := .cells #[.int .i64 t1531, .int .i64 t1532, .int .i64 t1533] 64 (0, 0)) (by (with_reducible repeat (first | refine blk_drewN ?_ _ | refine blk_drew ?_ | refine blk_alloc ?_ _)); exact BK1535.out) hb); have n2_ := Aside0.mk (below_step (by repeat (first | (with_reducible first | exact HB.out | apply below_alloc | apply pw_below_drewN | apply below_drew1 | refine below_set ?_ GE1514.out | refine below_set ?_ GE1535.out) | exact HB.out)) hb); clear BK1514; clear BK1535; clear HB; have BK1514 := n0_; have BK1535 := n1_; have HB := n2_; clear n0_ n1_ n2_; (try clear hb); (try clear hb2); (try clear hk); (try clear hi)))
          go_roundg k3
          case measure => have := HJ5.out; have := HJ88.out; have := HK3.out; omega
          case rel => exact ⟨(wrap64 (x15_3 + t1537)), (wrap64 (x16_3 + 1)), (by first | rfl | (simp; done) | (simp [*]; done)), (by first | rfl | (simp; done) | (simp [*]; done)), H', ⟨by have := HJ5.out; have := HJ88.out; have := HK3.out; omega⟩, ⟨by (with_reducible repeat (first | refine blk_drewN ?_ _ | refine blk_drew ?_ | refine blk_alloc ?_ _)); exact BK1514.out⟩, ⟨by (with_reducible repeat (first | refine blk_drewN ?_ _ | refine blk_drew ?_ | refine blk_alloc ?_ _)); exact BK1535.out⟩, ⟨by repeat (first | (with_reducible first | exact HB.out | apply below_alloc | apply pw_below_drewN | apply below_drew1 | refine below_set ?_ GE1514.out | refine below_set ?_ GE1535.out) | exact HB.out)⟩⟩
         ·
          rw [if_neg c101] at H
          have c101b0 : decide (x16_3 < 7) = false := decide_eq_false c101
          clear c101
          replace H := Option.bind_eq_some_iff.mp H
          obtain ⟨t1538, A1040, H⟩ := H
          try dsimp only at H
          have A104 := Aside0.mk A1040
          clear A1040
          replace H := Option.bind_eq_some_iff.mp H
          obtain ⟨t1539, A1050, H⟩ := H
          try dsimp only at H
          have A105 := Aside0.mk A1050
          clear A1050
          by_cases c106 : (t1538 == (decide (t1539 ≥ 0))) = true
          ·
           rw [if_pos c106] at H
           have c106b0 : (t1538 == (decide (t1539 ≥ 0))) = true := c106
           (try (have c106b1 : decide (t1538 = (decide (t1539 ≥ 0))) = true := by simpa using c106))
           (try (have c106b2 : (t1538 == (decide (t1539 ≥ 0))) = true := by simpa using c106))
           clear c106
           replace H := Option.bind_eq_some_iff.mp H
           obtain ⟨t1540, A1070, H⟩ := H
           try dsimp only at H
           have A107 := Aside0.mk A1070
           clear A1070
           by_cases c108 : t1540 = true
           ·
            subst c108
            rw [if_pos rfl] at H
            obtain rfl := Option.some.inj H
            go_wp2_with (first | ((with_reducible refine gate_callee (f := 79) rfl ?_); refine goesL_ (some 95) rfl rfl Try.func79 (by kernel_rfl) rfl #[.int .i64 t1511] rfl (by (try simp only [List.map_toArray, List.map_cons, List.map_nil]); first | done | rfl | (simp only [List.length_drop, List.length_take]; rfl)) ?_; (with_reducible refine (impl_IsKey.calls t1511 t1538 _ A104.out).mono ?_); rintro e w' ⟨rfl, ⟨nd, rfl⟩⟩; refine ⟨_, rfl, ?_⟩) | ((with_reducible refine gate_callee (f := 76) rfl ?_); refine goesL_ (some 97) rfl rfl Try.func76 (by kernel_rfl) rfl #[.int .i64 t1511] rfl (by (try simp only [List.map_toArray, List.map_cons, List.map_nil]); first | done | rfl | (simp only [List.length_drop, List.length_take]; rfl)) ?_; (with_reducible refine (impl_TonicOf.calls t1511 t1539 _ A105.out).mono ?_); rintro e w' ⟨rfl, ⟨nd, rfl⟩⟩; refine ⟨_, rfl, ?_⟩) | (go_at_call 79; (with_reducible refine (impl_IsKey.calls t1511 true _ A107.out).mono ?_); rintro e w' ⟨rfl, ⟨nd, rfl⟩⟩))
            go_ret
            exact ⟨by first | rfl | (simp [errW_none, errW_some] <;> rfl) | (simp [*, errW_none, errW_some] <;> rfl), by repeat (first | (with_reducible first | exact HB.out | apply below_alloc | apply pw_below_drewN | apply below_drew1 | refine below_set ?_ GE1514.out | refine below_set ?_ GE1535.out) | exact HB.out)⟩
           ·
            replace c108 := Bool.eq_false_iff.mpr c108
            subst c108
            rw [if_neg (show ¬ (false = true) by decide)] at H
            obtain rfl := Option.some.inj H
            go_wp2_with (first | ((with_reducible refine gate_callee (f := 79) rfl ?_); refine goesL_ (some 95) rfl rfl Try.func79 (by kernel_rfl) rfl #[.int .i64 t1511] rfl (by (try simp only [List.map_toArray, List.map_cons, List.map_nil]); first | done | rfl | (simp only [List.length_drop, List.length_take]; rfl)) ?_; (with_reducible refine (impl_IsKey.calls t1511 t1538 _ A104.out).mono ?_); rintro e w' ⟨rfl, ⟨nd, rfl⟩⟩; refine ⟨_, rfl, ?_⟩) | ((with_reducible refine gate_callee (f := 76) rfl ?_); refine goesL_ (some 97) rfl rfl Try.func76 (by kernel_rfl) rfl #[.int .i64 t1511] rfl (by (try simp only [List.map_toArray, List.map_cons, List.map_nil]); first | done | rfl | (simp only [List.length_drop, List.length_take]; rfl)) ?_; (with_reducible refine (impl_TonicOf.calls t1511 t1539 _ A105.out).mono ?_); rintro e w' ⟨rfl, ⟨nd, rfl⟩⟩; refine ⟨_, rfl, ?_⟩) | (go_at_call 79; (with_reducible refine (impl_IsKey.calls t1511 false _ A107.out).mono ?_); rintro e w' ⟨rfl, ⟨nd, rfl⟩⟩))
            go_ret
            exact ⟨by first | rfl | (simp [errW_none, errW_some] <;> rfl) | (simp [*, errW_none, errW_some] <;> rfl), by repeat (first | (with_reducible first | exact HB.out | apply below_alloc | apply pw_below_drewN | apply below_drew1 | refine below_set ?_ GE1514.out | refine below_set ?_ GE1535.out) | exact HB.out)⟩
          ·
           rw [if_neg c106] at H
           have c106b0 : (t1538 == (decide (t1539 ≥ 0))) = false := by simpa using c106
           (try (have c106b1 : decide (t1538 = (decide (t1539 ≥ 0))) = false := by simpa using c106))
           (try (have c106b2 : (t1538 == (decide (t1539 ≥ 0))) = false := by simpa using c106))
           (try (have c106b3 : ¬ (t1538 = (decide (t1539 ≥ 0))) := by simpa using c106))
           clear c106
           obtain rfl := Option.some.inj H
           go_wp2_with (first | ((with_reducible refine gate_callee (f := 79) rfl ?_); refine goesL_ (some 95) rfl rfl Try.func79 (by kernel_rfl) rfl #[.int .i64 t1511] rfl (by (try simp only [List.map_toArray, List.map_cons, List.map_nil]); first | done | rfl | (simp only [List.length_drop, List.length_take]; rfl)) ?_; (with_reducible refine (impl_IsKey.calls t1511 t1538 _ A104.out).mono ?_); rintro e w' ⟨rfl, ⟨nd, rfl⟩⟩; refine ⟨_, rfl, ?_⟩) | ((with_reducible refine gate_callee (f := 76) rfl ?_); refine goesL_ (some 97) rfl rfl Try.func76 (by kernel_rfl) rfl #[.int .i64 t1511] rfl (by (try simp only [List.map_toArray, List.map_cons, List.map_nil]); first | done | rfl | (simp only [List.length_drop, List.length_take]; rfl)) ?_; (with_reducible refine (impl_TonicOf.calls t1511 t1539 _ A105.out).mono ?_); rintro e w' ⟨rfl, ⟨nd, rfl⟩⟩; refine ⟨_, rfl, ?_⟩))
           go_ret
           exact ⟨by first | rfl | (simp [errW_none, errW_some] <;> rfl) | (simp [*, errW_none, errW_some] <;> rfl), by repeat (first | (with_reducible first | exact HB.out | apply below_alloc | apply pw_below_drewN | apply below_drew1 | refine below_set ?_ GE1514.out | refine below_set ?_ GE1535.out) | exact HB.out)⟩
end Go.Proofs.Ytiophiipmgpaeaa.F

namespace Go.Proofs.Ytiophiipmgpaeaa.Opened
open Go.ChangeShapes Go.WideShapes Go.Deep Go.RowKit Go.Joins Go.Proofs.YtiophiipmgpaeaaW.PrintWords
set_option linter.unusedVariables false
def I64 (n : Int) : Prop := -9223372036854775808 ≤ n ∧ n ≤ 9223372036854775807
theorem i64_of {n : Int} (h : (Lit.int .i64 n).wf = true) : I64 n := bounds_i64 h
section
variable {H : Type} {enc : TypeId × Value → H} {P : Program} {w : World} {base : Nat} {spare : Nat → Bool} {held : Bool}
def Fits (enc : TypeId × Value → H) (P : Program) (w : World) (base : Nat) (spare : Nat → Bool) (held : Bool) (fs : Array Field) (vs : List Value) : Prop :=
  vs.length = fs.size ∧ ∀ (j : Nat) (f : Field) (v : Value), fs[j]? = some f → vs[j]? = some v → ∃ (n : Nat) (y : DataW H × List MemPlace), DataW.trod enc P w base spare held n f.type [v] = some y
theorem Fits.int {fs : Array Field} {vs : List Value} (h : Fits enc P w base spare held fs vs) {j : Nat} {f : Field} (hf : fs[j]? = some f) (ht : P.underlying f.type = some (.int .i64)) : ∃ n, vs[j]? = some (.int .i64 n) ∧ I64 n := by
  have hj : j < vs.length := by rw [h.1]; exact (Array.getElem?_eq_some_iff.1 hf).1
  obtain ⟨m, y, hy⟩ := h.2 j f _ hf (List.getElem?_eq_getElem hj)
  obtain ⟨n, e, _, hw⟩ := DataW.trod_int ht hy
  simp only [List.cons.injEq, and_true] at e
  exact ⟨n, by rw [List.getElem?_eq_getElem hj, e], i64_of hw⟩
theorem Fits.bool {fs : Array Field} {vs : List Value} (h : Fits enc P w base spare held fs vs) {j : Nat} {f : Field} (hf : fs[j]? = some f) (ht : P.underlying f.type = some .bool) : ∃ b, vs[j]? = some (.bool b) := by
  have hj : j < vs.length := by rw [h.1]; exact (Array.getElem?_eq_some_iff.1 hf).1
  obtain ⟨m, y, hy⟩ := h.2 j f _ hf (List.getElem?_eq_getElem hj)
  obtain ⟨n, e, _⟩ := DataW.trod_bool ht hy
  simp only [List.cons.injEq, and_true] at e
  exact ⟨n, by rw [List.getElem?_eq_getElem hj, e]⟩
theorem open_nums {k : IntKind} {t e : TypeId} {a : Option Addr} {len cap : Nat} {dd : DataW H} {ps : List MemPlace} (ht : P.underlying t = some (.slice e)) (he : P.underlying e = some (.int k)) (hC : P.cellsOf e = 1)
    (h : DataW.Trod enc P w base spare held t (.slice a len cap) dd ps) : ∃ l : List Int, l.length = len ∧ len ≤ cap ∧ (Kd.int k).C w a len l ∧ ∀ x ∈ l, (Lit.int k x).wf = true := by
  obtain ⟨fuel, hf⟩ := h
  rcases open_ints ht he hC hf with ⟨hcs, _⟩ | ⟨x, l, c, zs, hcs, _, hl, hm, hz, _, hcell, hwz⟩
  · simp [Value.cells] at hcs
    obtain ⟨rfl, rfl, rfl⟩ := hcs
    exact ⟨[], rfl, Nat.le_refl _, Kd.C_nil _ w, by simp⟩
  · simp [Value.cells] at hcs
    obtain ⟨rfl, rfl, rfl⟩ := hcs
    have hlz : len ≤ zs.length := by rw [hz]; split <;> omega
    refine ⟨zs.take len, by simp [hlz], hl, ⟨by simp [hlz], by unfold maxLen at hm; omega, fun _ => ⟨x, rfl, fun j p hj => ⟨[.int k p], rfl, rfl, fun i u hu => ?_⟩⟩⟩, fun y hy => hwz y (List.mem_of_mem_take hy)⟩
    have hjl := (List.getElem?_eq_some_iff.1 hj).1
    rw [List.length_take] at hjl
    have hi : i = 0 := by
      have := (List.getElem?_eq_some_iff.1 hu).1
      simp at this
      omega
    subst hi
    have hu' : Value.int k p = u := by simpa using hu
    rw [← hu', show (Kd.int k).sz = 1 from rfl, Nat.mul_one, Nat.add_zero, hcell j (by omega)]
    rw [List.getElem?_take_of_lt (by omega)] at hj
    simp [hj]
end
end Go.Proofs.Ytiophiipmgpaeaa.Opened

namespace Go.Proofs.Ytiophiipmgpaeaa.F
open Go.RowKit Go.Proofs.Ytiophiipmgpaeaa.Opened Go.Proofs.YtiophiipmgpaeaaW.PrintWords Go.Proofs.YtiophiipmgpaeaaW.PrintLast
set_option linter.unusedVariables false
set_option linter.unusedSimpArgs false
theorem w1 {n m : Nat} (h : n < m) (hm : m ≤ 9223372036854775807) : wrap64 ((n : Int) + 1) = ((n + 1 : Nat) : Int) := by unfold wrap64; omega
theorem wid {x : Int} (h0 : -9223372036854775808 ≤ x) (h1 : x ≤ 9223372036854775807) : wrap64 x = x := by unfold wrap64; omega
theorem rd_nat (xs : List Int) (n : Nat) (h : n < xs.length) : rd xs (n : Int) = xs[n] := by simp [rd, h]
end Go.Proofs.Ytiophiipmgpaeaa.F
