/- FnBars, part 6 of 6: texts of the claim, joined into one file. -/
import Derived.Test.YtbhlmeghbfmgiaaZFnBars5
import Derived.Deep.Slices
import Derived.Deep.Fields
import Derived.ChangeSame
import Derived.ChangeArms
import Derived.Lib.SmallJoins
import Derived.OpenShut
import Derived.Says
import Derived.Shelf.Abstract
import Derived.Lib.SliceRun
import Derived.Test.YtbhlmeghbfmgiaaRows
import Derived.WalkKit
import Derived.ProofKit
import Derived.ShutString
import Derived.ChangeOld
import Derived.Below
import Derived.Carry
import Derived.SizedLaws

namespace Go.Proofs.Ytbhlmeghbfmgiaa.F
open Go.RowKit Go.Proofs.YtbhlmeghbfmgiaaW.PrintWords Go.Proofs.YtbhlmeghbfmgiaaW.PrintLast Go.Proofs.YtbhlmeghbfmgiaaW.PrintMore
attribute [local go_sem] max2_int min2_int max_two min_two max_three min_three max_four min_four
set_option linter.unusedVariables false
set_option linter.unusedSimpArgs false
def impl_CeilDiv.f (a0 : Int) (a1 : Int) : Option (Int) := (impl_InRange.f a0 0 1000000000000).bind fun t1400 => (if t1400 = true then ((impl_InRange.f a1 1 1000000000000).bind fun t1401 => (if t1401 = true then (if a1 = 0 then (none) else (some (wrap64 (Int.tdiv (wrap64 ((wrap64 (a0 + a1)) - 1)) a1)))) else (some 0))) else (some 0))
set_option maxHeartbeats 8000000 in
set_option maxRecDepth 100000 in
theorem impl_CeilDiv.calls (a0 : Int) (a1 : Int) (r : Int) (w : World) (h : impl_CeilDiv.f a0 a1 = some r) :
  Calls Try.prog 118 #[.int .i64 a0, .int .i64 a1] w fun e w' => e = .returned (.int .i64 r) ∧ Drawn0 w w' := by
 have H : ((impl_InRange.f a0 0 1000000000000).bind fun t1400 => (if t1400 = true then ((impl_InRange.f a1 1 1000000000000).bind fun t1401 => (if t1401 = true then (if a1 = 0 then (none) else (some (wrap64 (Int.tdiv (wrap64 ((wrap64 (a0 + a1)) - 1)) a1)))) else (some 0))) else (some 0))) = some r := h
 clear h
 replace H := Option.bind_eq_some_iff.mp H
 obtain ⟨t1400, A30, H⟩ := H
 try dsimp only at H
 have A3 := Aside0.mk A30
 clear A30
 by_cases c4 : t1400 = true
 ·
  subst c4
  rw [if_pos rfl] at H
  replace H := Option.bind_eq_some_iff.mp H
  obtain ⟨t1401, A50, H⟩ := H
  try dsimp only at H
  have A5 := Aside0.mk A50
  clear A50
  by_cases c6 : t1401 = true
  ·
   subst c6
   rw [if_pos rfl] at H
   by_cases c7 : a1 = 0
   ·
    rw [if_pos c7] at H
    exact absurd H (by simp)
   ·
    rw [if_neg c7] at H
    have c7b0 : (a1 == 0) = false := beq_eq_false_iff_ne.mpr c7
    have c7b1 : (a1 != 0) = true := bne_iff_ne.mpr c7
    obtain rfl := Option.some.inj H
    go_enter Try.func118, Try.ntmps118
    go_wp2_with (first | ((with_reducible refine gate_callee (f := 86) rfl ?_); refine goesL_ (some 6) rfl rfl Try.func86 (by kernel_rfl) rfl #[.int .i64 a0, .int .i64 0, .int .i64 1000000000000] rfl (by (try simp only [List.map_toArray, List.map_cons, List.map_nil]); first | done | rfl | (simp only [List.length_drop, List.length_take]; rfl)) ?_; (with_reducible refine (impl_InRange.calls a0 0 1000000000000 true _ A3.out).mono ?_); rintro e w' ⟨rfl, ⟨nd, rfl⟩⟩; refine ⟨_, rfl, ?_⟩) | (go_at_call 86; (with_reducible refine (impl_InRange.calls a1 1 1000000000000 true _ A5.out).mono ?_); rintro e w' ⟨rfl, ⟨nd, rfl⟩⟩))
    go_ret
    exact ⟨by first | rfl | (simp; done) | (simp [*]; done), by repeat (first | exact Drawn0.refl _ | apply Drawn0.step)⟩
  ·
   replace c6 := Bool.eq_false_iff.mpr c6
   subst c6
   rw [if_neg (show ¬ (false = true) by decide)] at H
   obtain rfl := Option.some.inj H
   go_enter Try.func118, Try.ntmps118
   go_wp2_with (first | ((with_reducible refine gate_callee (f := 86) rfl ?_); refine goesL_ (some 6) rfl rfl Try.func86 (by kernel_rfl) rfl #[.int .i64 a0, .int .i64 0, .int .i64 1000000000000] rfl (by (try simp only [List.map_toArray, List.map_cons, List.map_nil]); first | done | rfl | (simp only [List.length_drop, List.length_take]; rfl)) ?_; (with_reducible refine (impl_InRange.calls a0 0 1000000000000 true _ A3.out).mono ?_); rintro e w' ⟨rfl, ⟨nd, rfl⟩⟩; refine ⟨_, rfl, ?_⟩) | (go_at_call 86; (with_reducible refine (impl_InRange.calls a1 1 1000000000000 false _ A5.out).mono ?_); rintro e w' ⟨rfl, ⟨nd, rfl⟩⟩))
   go_ret
   exact ⟨by first | rfl | (simp; done) | (simp [*]; done), by repeat (first | exact Drawn0.refl _ | apply Drawn0.step)⟩
 ·
  replace c4 := Bool.eq_false_iff.mpr c4
  subst c4
  rw [if_neg (show ¬ (false = true) by decide)] at H
  obtain rfl := Option.some.inj H
  go_enter Try.func118, Try.ntmps118
  go_wp2_with (first | ((with_reducible refine gate_callee (f := 86) rfl ?_); refine goesL_ (some 6) rfl rfl Try.func86 (by kernel_rfl) rfl #[.int .i64 a0, .int .i64 0, .int .i64 1000000000000] rfl (by (try simp only [List.map_toArray, List.map_cons, List.map_nil]); first | done | rfl | (simp only [List.length_drop, List.length_take]; rfl)) ?_; (with_reducible refine (impl_InRange.calls a0 0 1000000000000 false _ A3.out).mono ?_); rintro e w' ⟨rfl, ⟨nd, rfl⟩⟩; refine ⟨_, rfl, ?_⟩))
  go_ret
  exact ⟨by first | rfl | (simp; done) | (simp [*]; done), by repeat (first | exact Drawn0.refl _ | apply Drawn0.step)⟩
end Go.Proofs.Ytbhlmeghbfmgiaa.F

namespace Go.Proofs.Ytbhlmeghbfmgiaa.F
open Go.RowKit Go.Proofs.YtbhlmeghbfmgiaaW.PrintWords Go.Proofs.YtbhlmeghbfmgiaaW.PrintLast Go.Proofs.YtbhlmeghbfmgiaaW.PrintMore
attribute [local go_sem] max2_int min2_int max_two min_two max_three min_three max_four min_four
set_option linter.unusedVariables false
set_option linter.unusedSimpArgs false
def impl_CountBars.f (k : Nat) (a0_0 : Int) (a0_1 : Int) (l1 : List (S26)) : Option (Int) := (impl_IsMeter.f a0_0 a0_1).bind fun t1403 => (if t1403 = true then ((impl_EndOf.f k l1).bind fun t1404 => ((impl_BarLong.f a0_0 a0_1).bind fun t1405 => ((impl_CeilDiv.f t1404 t1405).bind fun t1406 => (some t1406)))) else (some 0))
set_option maxHeartbeats 8000000 in
set_option maxRecDepth 100000 in
theorem impl_CountBars.calls (k : Nat) (a0_0 : Int) (a0_1 : Int) (A1 : Option Addr) (c1 : Nat) (l1 : List (S26)) (r : Int) (w : World) (hr1 : Kd.C k26 w A1 l1.length l1) (hc1 : l1.length ≤ c1) (h : impl_CountBars.f k a0_0 a0_1 l1 = some r) :
  Calls Try.prog 54 #[.agg #[.int .i64 a0_0, .int .i64 a0_1], .slice A1 l1.length c1] w fun e w' => e = .returned (.int .i64 r) ∧ Below w.heap.size w w' := by
 have hu73 := Try.underlying73
 have HR1 := Aside0.mk hr1
 have HC1 := Aside0.mk hc1
 clear hr1 hc1
 have HB := Aside0.mk (Below.refl w.heap.size w)
 have H : ((impl_IsMeter.f a0_0 a0_1).bind fun t1403 => (if t1403 = true then ((impl_EndOf.f k l1).bind fun t1404 => ((impl_BarLong.f a0_0 a0_1).bind fun t1405 => ((impl_CeilDiv.f t1404 t1405).bind fun t1406 => (some t1406)))) else (some 0))) = some r := h
 clear h
 replace H := Option.bind_eq_some_iff.mp H
 obtain ⟨t1403, A30, H⟩ := H
 try dsimp only at H
 have A3 := Aside0.mk A30
 clear A30
 by_cases c4 : t1403 = true
 ·
  subst c4
  rw [if_pos rfl] at H
  replace H := Option.bind_eq_some_iff.mp H
  obtain ⟨t1404, A50, H⟩ := H
  try dsimp only at H
  have A5 := Aside0.mk A50
  clear A50
  replace H := Option.bind_eq_some_iff.mp H
  obtain ⟨t1405, A60, H⟩ := H
  try dsimp only at H
  have A6 := Aside0.mk A60
  clear A60
  replace H := Option.bind_eq_some_iff.mp H
  obtain ⟨t1406, A70, H⟩ := H
  try dsimp only at H
  have A7 := Aside0.mk A70
  clear A70
  obtain rfl := Option.some.inj H
  go_enter Try.func54, Try.ntmps54
  try go_wp2_with (first | ((with_reducible refine gate_dst (N := 2) rfl ?_); refine box_event ?hg (N := 2) ?hd (cs := #[.int .i64 a0_0, .int .i64 a0_1]) (t := 73) ?hr ?_; (case hd => rfl); (case hg => rfl); (case hr => first | (go_simp; done) | (go_simp; rfl)); intro gb1402 hg w8 hbox hb; have n0_ := Aside0.mk (below_step (by repeat (first | (with_reducible first | exact HB.out | apply below_alloc | apply pw_below_drewN | apply below_drew1) | exact HB.out)) hb); have n1_ := Aside0.mk (hbox); have n2_ := Aside0.mk ((by rw [hg]; exact (below_size (by repeat (first | (with_reducible first | exact HB.out | apply below_alloc | apply pw_below_drewN | apply below_drew1) | exact HB.out))) : w.heap.size ≤ gb1402)); have n3_ := Aside0.mk ((by rw [hg]; exact (below_size (by repeat (first | (with_reducible first | exact HB.out | apply below_alloc | apply pw_below_drewN | apply below_drew1) | exact HB.out))) : w.heap.size ≤ gb1402)); clear HB; have HB := n0_; have BK1402 := n1_; have GW1402 := n2_; have GE1402 := n3_; clear n0_ n1_ n2_ n3_; clear hb hbox hg; have hcz9_0 : w8.cell? ⟨gb1402, 0, none⟩ = some (.int .i64 a0_0) := (blk_cell BK1402.out 0).trans rfl; have hcz9_1 : w8.cell? ⟨gb1402, 1, none⟩ = some (.int .i64 a0_1) := (blk_cell BK1402.out 1).trans rfl; have hfz9_0 := blk_frozen BK1402.out 0; have hfz9_1 := blk_frozen BK1402.out 1) | ((with_reducible refine gate_callee (f := 55) rfl ?_); refine goesL_ (some 6) rfl rfl Try.func55 (by kernel_rfl) rfl #[.agg #[.int .i64 a0_0, .int .i64 a0_1]] rfl (by (try simp only [List.map_toArray, List.map_cons, List.map_nil]); first | done | rfl | (simp only [List.length_drop, List.length_take]; rfl)) ?_; (with_reducible refine (impl_IsMeter.calls a0_0 a0_1 true _ A3.out).mono ?_); rintro e w10 ⟨rfl, hb⟩; refine ⟨_, rfl, ?_⟩; have n0_ := Aside0.mk (blk_below (g := gb1402) (o := .cells #[.int .i64 a0_0, .int .i64 a0_1] 73 (0, 0)) (by (with_reducible repeat (first | refine blk_drewN ?_ _ | refine blk_drew ?_ | refine blk_alloc ?_ _)); exact BK1402.out) hb); have n1_ := Aside0.mk (below_step (by repeat (first | (with_reducible first | exact HB.out | apply below_alloc | apply pw_below_drewN | apply below_drew1 | refine below_set ?_ GE1402.out) | exact HB.out)) hb); clear BK1402; clear HB; have BK1402 := n0_; have HB := n1_; clear n0_ n1_; (try clear hb); (try clear hb2); (try clear hk); (try clear hi)))
  have n0_ := Aside0.mk (blk_drew BK1402.out)
  have n1_ := Aside0.mk (below_drew1 HB.out)
  clear BK1402
  clear HB
  have BK1402 := n0_
  have HB := n1_
  clear n0_ n1_
  refine BelowW.region (by kernel_rfl) (by kernel_rfl) ?_
  have hq0_ : w10.drew.cell? ⟨gb1402, 0, none⟩ = some (.int .i64 a0_0) := (blk_cell BK1402.out 0).trans rfl
  have hq1_ : w10.drew.cell? ⟨gb1402, 1, none⟩ = some (.int .i64 a0_1) := (blk_cell BK1402.out 1).trans rfl
  generalize w10.drew = w11 at BK1402 HB hq0_ hq1_ ⊢
  replace hq0_ := BelowW.at hq0_
  replace hq1_ := BelowW.at hq1_
  change wpQuiet _ _ _ _ (List.cons _ _) _
  repeat (go_big_quiet_step (first | (go_at_call 16; have n_HB := Aside0.mk (below_step HB.out (BelowW.h ‹_›)); have HB := n_HB; (with_reducible refine (impl_EndOf.calls k _ _ l1 t1404 _ ?side1 ?side2 A5.out).mono ?_); (case side1 => repeat (first | exact (Kd.C_below HR1.out HB.out) | (with_reducible refine Kd.C_alloc ?_ _) | (with_reducible refine Kd.C_drewN ?_ _) | (with_reducible refine Kd.C_drew ?_))); (case side2 => exact HC1.out); exact fun _ _ h_ => ⟨h_.1, BelowW.step _ h_.2⟩) | (go_at_call 52; (with_reducible refine (impl_BarLong.calls a0_0 a0_1 t1405 _ A6.out).mono ?_); exact fun _ _ h_ => ⟨h_.1, BelowW.step _ h_.2⟩) | (go_at_call 118; (with_reducible refine (impl_CeilDiv.calls t1404 t1405 t1406 _ A7.out).mono ?_); exact fun _ _ h_ => ⟨h_.1, BelowW.drawn _ h_.2⟩)))
  refine wpQuiet_nil ?_
  intro w13 hb
  try simp only [i64_w, i32_w]
  clear hq0_ hq1_
  have n0_ := Aside0.mk (blk_below (g := gb1402) (o := .cells #[.int .i64 a0_0, .int .i64 a0_1] 73 (0, 0)) (by (with_reducible repeat (first | refine blk_drewN ?_ _ | refine blk_drew ?_ | refine blk_alloc ?_ _)); exact BK1402.out) hb)
  have n1_ := Aside0.mk (below_step (by repeat (first | (with_reducible first | exact HB.out | apply below_alloc | apply pw_below_drewN | apply below_drew1 | refine below_set ?_ GE1402.out) | exact HB.out)) hb)
  clear BK1402
  clear HB
  have BK1402 := n0_
  have HB := n1_
  clear n0_ n1_
  (try clear hb)
  (try clear hb2)
  (try clear hk)
  (try clear hi)
  try go_wp2
  go_ret
  exact ⟨by first | rfl | (simp [errW_none, errW_some] <;> rfl) | (simp [*, errW_none, errW_some] <;> rfl), by repeat (first | (with_reducible first | exact HB.out | apply below_alloc | apply pw_below_drewN | apply below_drew1 | refine below_set ?_ GE1402.out) | exact HB.out)⟩
 ·
  replace c4 := Bool.eq_false_iff.mpr c4
  subst c4
  rw [if_neg (show ¬ (false = true) by decide)] at H
  obtain rfl := Option.some.inj H
  go_enter Try.func54, Try.ntmps54
  go_wp2_with (first | ((with_reducible refine gate_dst (N := 2) rfl ?_); refine box_event ?hg (N := 2) ?hd (cs := #[.int .i64 a0_0, .int .i64 a0_1]) (t := 73) ?hr ?_; (case hd => rfl); (case hg => rfl); (case hr => first | (go_simp; done) | (go_simp; rfl)); intro gb1402 hg w14 hbox hb; have n0_ := Aside0.mk (below_step (by repeat (first | (with_reducible first | exact HB.out | apply below_alloc | apply pw_below_drewN | apply below_drew1) | exact HB.out)) hb); have n1_ := Aside0.mk (hbox); have n2_ := Aside0.mk ((by rw [hg]; exact (below_size (by repeat (first | (with_reducible first | exact HB.out | apply below_alloc | apply pw_below_drewN | apply below_drew1) | exact HB.out))) : w.heap.size ≤ gb1402)); have n3_ := Aside0.mk ((by rw [hg]; exact (below_size (by repeat (first | (with_reducible first | exact HB.out | apply below_alloc | apply pw_below_drewN | apply below_drew1) | exact HB.out))) : w.heap.size ≤ gb1402)); clear HB; have HB := n0_; have BK1402 := n1_; have GW1402 := n2_; have GE1402 := n3_; clear n0_ n1_ n2_ n3_; clear hb hbox hg; have hcz15_0 : w14.cell? ⟨gb1402, 0, none⟩ = some (.int .i64 a0_0) := (blk_cell BK1402.out 0).trans rfl; have hcz15_1 : w14.cell? ⟨gb1402, 1, none⟩ = some (.int .i64 a0_1) := (blk_cell BK1402.out 1).trans rfl; have hfz15_0 := blk_frozen BK1402.out 0; have hfz15_1 := blk_frozen BK1402.out 1) | ((with_reducible refine gate_callee (f := 55) rfl ?_); refine goesL_ (some 6) rfl rfl Try.func55 (by kernel_rfl) rfl #[.agg #[.int .i64 a0_0, .int .i64 a0_1]] rfl (by (try simp only [List.map_toArray, List.map_cons, List.map_nil]); first | done | rfl | (simp only [List.length_drop, List.length_take]; rfl)) ?_; (with_reducible refine (impl_IsMeter.calls a0_0 a0_1 false _ A3.out).mono ?_); rintro e w16 ⟨rfl, hb⟩; refine ⟨_, rfl, ?_⟩; have n0_ := Aside0.mk (blk_below (g := gb1402) (o := .cells #[.int .i64 a0_0, .int .i64 a0_1] 73 (0, 0)) (by (with_reducible repeat (first | refine blk_drewN ?_ _ | refine blk_drew ?_ | refine blk_alloc ?_ _)); exact BK1402.out) hb); have n1_ := Aside0.mk (below_step (by repeat (first | (with_reducible first | exact HB.out | apply below_alloc | apply pw_below_drewN | apply below_drew1 | refine below_set ?_ GE1402.out) | exact HB.out)) hb); clear BK1402; clear HB; have BK1402 := n0_; have HB := n1_; clear n0_ n1_; (try clear hb); (try clear hb2); (try clear hk); (try clear hi)))
  go_ret
  exact ⟨by first | rfl | (simp [errW_none, errW_some] <;> rfl) | (simp [*, errW_none, errW_some] <;> rfl), by repeat (first | (with_reducible first | exact HB.out | apply below_alloc | apply pw_below_drewN | apply below_drew1 | refine below_set ?_ GE1402.out) | exact HB.out)⟩
end Go.Proofs.Ytbhlmeghbfmgiaa.F

namespace Go.Proofs.Ytbhlmeghbfmgiaa.F
open Go.RowKit Go.Proofs.YtbhlmeghbfmgiaaW.PrintWords Go.Proofs.YtbhlmeghbfmgiaaW.PrintLast Go.Proofs.YtbhlmeghbfmgiaaW.PrintMore
attribute [local go_sem] max2_int min2_int max_two min_two max_three min_three max_four min_four
set_option linter.unusedVariables false
set_option linter.unusedSimpArgs false
mutual
def laws_FnBars.j0 : Nat → List Int → Option (Bool)
 | 0, _ => none
 | k + 1, x0 => (spec_DrawPiecesOf.f k x0).bind fun bt1420 => ((impl_PiecesOf.f k bt1420.1 bt1420.2.1 bt1420.2.2.1 bt1420.2.2.2.1 bt1420.2.2.2.2.1 bt1420.2.2.2.2.2).bind fun t1428 => (if (t1428.length : Int) > 0 then ((impl_JoinPieces.f k t1428).bind fun bt1431 => (if bt1431.2.2 = true then (if bt1431.1 = bt1420.2.2.1 then (laws_FnBars.j1 k x0 t1428 (bt1431.2.1 != bt1420.2.2.2.1) bt1420.1 bt1420.2.1) else (laws_FnBars.j1 k x0 t1428 true bt1420.1 bt1420.2.1)) else (laws_FnBars.j1 k x0 t1428 true bt1420.1 bt1420.2.1))) else (laws_FnBars.j3 k x0)))
def laws_FnBars.j3 : Nat → List Int → Option (Bool)
 | 0, _ => none
 | k + 1, x0 => (spec_DrawCountBars.f k x0).bind fun bt1439 => ((impl_CountBars.f k bt1439.1 bt1439.2.1 bt1439.2.2).bind fun t1445 => ((impl_BarLong.f bt1439.1 bt1439.2.1).bind fun t1446 => ((impl_EndOf.f k bt1439.2.2).bind fun t1447 => (if (wrap64 (t1445 * t1446)) ≥ t1447 then (some true) else ((impl_IsMeter.f bt1439.1 bt1439.2.1).bind fun t1448 => (some (!t1448)))))))
def laws_FnBars.j1 : Nat → List Int → List (S86) → Bool → Int → Int → Option (Bool)
 | 0, _, _, _, _, _ => none
 | k + 1, x0, x15, x103, x1427000, x1427001 => if x103 = true then (some false) else (laws_FnBars.l0 k x0 x15 0 x1427000 x1427001)
def laws_FnBars.l0 : Nat → List Int → List (S86) → Int → Int → Int → Option (Bool)
 | 0, _, _, _, _, _ => none
 | k + 1, x0, x15, x19, x1427000, x1427001 => if x19 < (x15.length : Int) then (if 0 ≤ x19 then ((impl_BarLong.f x1427000 x1427001).bind fun t1435 => (if t1435 = 0 then (none) else ((impl_BarLong.f x1427000 x1427001).bind fun t1438 => (if t1438 = 0 then (none) else (if (wrap64 (Int.tdiv ((rd_T86 x15 x19).f0) t1435)) = (wrap64 (Int.tdiv (wrap64 ((wrap64 (((rd_T86 x15 x19).f0) + ((rd_T86 x15 x19).f1))) - 1)) t1438)) then (laws_FnBars.l0 k x0 x15 (wrap64 (x19 + 1)) x1427000 x1427001) else (some false)))))) else (none)) else (laws_FnBars.j3 k x0)
end
def laws_FnBars.f (k : Nat) (l0 : List Int) : Option (Bool) := (laws_big.f l0).bind fun t1407 => (if t1407 = true then (some true) else ((spec_DrawPlaceOf.f k l0).bind fun bt1408 => ((impl_PlaceOf.f k bt1408.1 bt1408.2.1 bt1408.2.2).bind fun bt1412 => ((spec_PlaceOf.f k bt1408.1 bt1408.2.1 bt1408.2.2).bind fun bt1415 => (if bt1412.1 = bt1415.1 then (if bt1412.1 > 0 then ((impl_TickOf.f k bt1408.1 bt1408.2.1 bt1412.1 bt1412.2.1).bind fun bt1418 => (if bt1412.1 ≤ 500 then (if bt1418.2 = true then (if (wrap64 (bt1418.1 + bt1412.2.2)) = bt1408.2.2 then (if bt1412.2.2 < 0 then (some false) else (laws_FnBars.j0 k l0)) else (some false)) else (some false)) else (if bt1412.2.2 < 0 then (some false) else (laws_FnBars.j0 k l0)))) else (laws_FnBars.j0 k l0)) else (some false))))))
set_option maxHeartbeats 8000000 in
set_option maxRecDepth 100000 in
theorem laws_FnBars.calls (k : Nat) (A0 : Option Addr) (c0 : Nat) (l0 : List Int) (r : Bool) (w : World) (hr0 : Kd.C (Kd.int .u8) w A0 l0.length l0) (hc0 : l0.length ≤ c0) (h : laws_FnBars.f k l0 = some r) :
  Calls Try.prog 7 #[.slice A0 l0.length c0] w fun e w' => e = .returned (.bool r) ∧ Below w.heap.size w w' := by
 have hu73 := Try.underlying73
 have hu26 := Try.underlying26
 have HR0 := Aside0.mk hr0
 have HC0 := Aside0.mk hc0
 clear hr0 hc0
 have HB := Aside0.mk (Below.refl w.heap.size w)
 have H : ((laws_big.f l0).bind fun t1407 => (if t1407 = true then (some true) else ((spec_DrawPlaceOf.f k l0).bind fun bt1408 => ((impl_PlaceOf.f k bt1408.1 bt1408.2.1 bt1408.2.2).bind fun bt1412 => ((spec_PlaceOf.f k bt1408.1 bt1408.2.1 bt1408.2.2).bind fun bt1415 => (if bt1412.1 = bt1415.1 then (if bt1412.1 > 0 then ((impl_TickOf.f k bt1408.1 bt1408.2.1 bt1412.1 bt1412.2.1).bind fun bt1418 => (if bt1412.1 ≤ 500 then (if bt1418.2 = true then (if (wrap64 (bt1418.1 + bt1412.2.2)) = bt1408.2.2 then (if bt1412.2.2 < 0 then (some false) else (laws_FnBars.j0 k l0)) else (some false)) else (some false)) else (if bt1412.2.2 < 0 then (some false) else (laws_FnBars.j0 k l0)))) else (laws_FnBars.j0 k l0)) else (some false))))))) = some r := h
 clear h
 replace H := Option.bind_eq_some_iff.mp H
 obtain ⟨t1407, A20, H⟩ := H
 try dsimp only at H
 have A2 := Aside0.mk A20
 clear A20
 by_cases c3 : t1407 = true
 ·
  subst c3
  rw [if_pos rfl] at H
  obtain rfl := Option.some.inj H
  go_enter Try.func7, Try.ntmps7
  go_wp2_with (first | ((with_reducible refine gate_callee (f := 10) rfl ?_); refine goesL_ (some 24) rfl rfl Try.func10 (by kernel_rfl) rfl #[.slice A0 l0.length c0] rfl (by (try simp only [List.map_toArray, List.map_cons, List.map_nil]); first | done | rfl | (simp only [List.length_drop, List.length_take]; rfl)) ?_; (with_reducible refine (laws_big.calls _ _ l0 true _ ?side1 ?side2 A2.out).mono ?_); (case side1 => repeat (first | exact HR0.out | (with_reducible refine Kd.C_alloc ?_ _) | (with_reducible refine Kd.C_drewN ?_ _) | (with_reducible refine Kd.C_drew ?_))); (case side2 => exact HC0.out); rintro e w' ⟨rfl, ⟨nd, rfl⟩⟩; refine ⟨_, rfl, ?_⟩))
  go_ret
  exact ⟨by first | rfl | (simp [errW_none, errW_some] <;> rfl) | (simp [*, errW_none, errW_some] <;> rfl), by repeat (first | (with_reducible first | exact HB.out | apply below_alloc | apply pw_below_drewN | apply below_drew1) | exact HB.out)⟩
 ·
  replace c3 := Bool.eq_false_iff.mpr c3
  subst c3
  rw [if_neg (show ¬ (false = true) by decide)] at H
  replace H := Option.bind_eq_some_iff.mp H
  obtain ⟨⟨t1408, t1409, t1410⟩, A40, H⟩ := H
  try dsimp only at H
  have A4 := Aside0.mk A40
  clear A40
  replace H := Option.bind_eq_some_iff.mp H
  obtain ⟨⟨t1412, t1413, t1414⟩, A50, H⟩ := H
  try dsimp only at H
  have A5 := Aside0.mk A50
  clear A50
  replace H := Option.bind_eq_some_iff.mp H
  obtain ⟨⟨t1415, t1416, t1417⟩, A60, H⟩ := H
  try dsimp only at H
  have A6 := Aside0.mk A60
  clear A60
  by_cases c7 : t1412 = t1415
  ·
   rw [if_pos c7] at H
   have c7b0 : (t1412 == t1415) = true := beq_iff_eq.mpr c7
   have c7b1 : (t1412 != t1415) = false := bne_eq_false_iff_eq.mpr c7
   clear c7
   have HC8 := Aside0.mk H
   clear H
   go_enter Try.func7, Try.ntmps7
   go_upto_if 48 with (first | ((with_reducible refine gate_callee (f := 10) rfl ?_); refine goesL_ (some 24) rfl rfl Try.func10 (by kernel_rfl) rfl #[.slice A0 l0.length c0] rfl (by (try simp only [List.map_toArray, List.map_cons, List.map_nil]); first | done | rfl | (simp only [List.length_drop, List.length_take]; rfl)) ?_; (with_reducible refine (laws_big.calls _ _ l0 false _ ?side1 ?side2 A2.out).mono ?_); (case side1 => repeat (first | exact HR0.out | (with_reducible refine Kd.C_alloc ?_ _) | (with_reducible refine Kd.C_drewN ?_ _) | (with_reducible refine Kd.C_drew ?_))); (case side2 => exact HC0.out); rintro e w' ⟨rfl, ⟨nd, rfl⟩⟩; refine ⟨_, rfl, ?_⟩) | ((with_reducible refine gate_callee (f := 45) rfl ?_); refine goesL_ (some 27) rfl rfl Try.func45 (by kernel_rfl) rfl #[.slice A0 l0.length c0] rfl (by (try simp only [List.map_toArray, List.map_cons, List.map_nil]); first | done | rfl | (simp only [List.length_drop, List.length_take]; rfl)) ?_; (with_reducible refine (spec_DrawPlaceOf.calls k _ _ l0 t1408 t1409 t1410 _ ?side1 ?side2 A4.out).mono ?_); (case side1 => repeat (first | exact HR0.out | (with_reducible refine Kd.C_alloc ?_ _) | (with_reducible refine Kd.C_drewN ?_ _) | (with_reducible refine Kd.C_drew ?_))); (case side2 => exact HC0.out); rintro e w9 ⟨rfl, hb⟩; refine ⟨_, rfl, ?_⟩; have n0_ := Aside0.mk (below_step (by repeat (first | (with_reducible first | exact HB.out | apply below_alloc | apply pw_below_drewN | apply below_drew1) | exact HB.out)) hb); clear HB; have HB := n0_; clear n0_; (try clear hb); (try clear hb2); (try clear hk); (try clear hi)) | ((with_reducible refine gate_dst (N := 3) rfl ?_); refine box_event ?hg (N := 3) ?hd (cs := #[.int .i64 0, .int .i64 0]) (t := 73) ?hr ?_; (case hd => rfl); (case hg => rfl); (case hr => first | (go_simp; done) | (go_simp; rfl)); intro gb1411 hg w10 hbox hb; have n0_ := Aside0.mk (below_step (by repeat (first | (with_reducible first | exact HB.out | apply below_alloc | apply pw_below_drewN | apply below_drew1) | exact HB.out)) hb); have n1_ := Aside0.mk (hbox); have n2_ := Aside0.mk ((by rw [hg]; exact (below_size (by repeat (first | (with_reducible first | exact HB.out | apply below_alloc | apply pw_below_drewN | apply below_drew1) | exact HB.out))) : w.heap.size ≤ gb1411)); have n3_ := Aside0.mk ((by rw [hg]; exact (below_size (by repeat (first | (with_reducible first | exact HB.out | apply below_alloc | apply pw_below_drewN | apply below_drew1) | exact HB.out))) : w.heap.size ≤ gb1411)); clear HB; have HB := n0_; have BK1411 := n1_; have GW1411 := n2_; have GE1411 := n3_; clear n0_ n1_ n2_ n3_; clear hb hbox hg; have hcz11_0 : w10.cell? ⟨gb1411, 0, none⟩ = some (.int .i64 0) := (blk_cell BK1411.out 0).trans rfl; have hcz11_1 : w10.cell? ⟨gb1411, 1, none⟩ = some (.int .i64 0) := (blk_cell BK1411.out 1).trans rfl; have hfz11_0 := blk_frozen BK1411.out 0; have hfz11_1 := blk_frozen BK1411.out 1) | ((with_reducible refine gate_callee (f := 46) rfl ?_); refine goesL_ (some 33) rfl rfl Try.func46 (by kernel_rfl) rfl #[.agg #[.int .i64 t1408, .int .i64 t1409], .int .i64 t1410] rfl (by (try simp only [List.map_toArray, List.map_cons, List.map_nil]); first | done | rfl | (simp only [List.length_drop, List.length_take]; rfl)) ?_; (with_reducible refine (impl_PlaceOf.calls k t1408 t1409 t1410 t1412 t1413 t1414 _ A5.out).mono ?_); rintro e w12 ⟨rfl, hb⟩; refine ⟨_, rfl, ?_⟩; have n0_ := Aside0.mk (blk_below (g := gb1411) (o := .cells #[.int .i64 t1408, .int .i64 t1409] 73 (0, 0)) (by (with_reducible repeat (first | refine blk_drewN ?_ _ | refine blk_drew ?_ | refine blk_alloc ?_ _)); refine blk_put (cs := #[.int .i64 t1408, .int .i64 0]) ?_ 1 _ rfl; (with_reducible repeat (first | refine blk_drewN ?_ _ | refine blk_drew ?_ | refine blk_alloc ?_ _)); refine blk_put (cs := #[.int .i64 0, .int .i64 0]) ?_ 0 _ rfl; (with_reducible repeat (first | refine blk_drewN ?_ _ | refine blk_drew ?_ | refine blk_alloc ?_ _)); exact BK1411.out) hb); have n1_ := Aside0.mk (below_step (by repeat (first | (with_reducible first | exact HB.out | apply below_alloc | apply pw_below_drewN | apply below_drew1 | refine below_set ?_ GE1411.out) | exact HB.out)) hb); clear BK1411; clear HB; have BK1411 := n0_; have HB := n1_; clear n0_ n1_; (try clear hb); (try clear hb2); (try clear hk); (try clear hi); have hcz13_0 : w12.cell? ⟨gb1411, 0, none⟩ = some (.int .i64 t1408) := (blk_cell BK1411.out 0).trans rfl; have hcz13_1 : w12.cell? ⟨gb1411, 1, none⟩ = some (.int .i64 t1409) := (blk_cell BK1411.out 1).trans rfl; have hfz13_0 := blk_frozen BK1411.out 0; have hfz13_1 := blk_frozen BK1411.out 1) | ((with_reducible refine gate_callee (f := 47) rfl ?_); refine goesL_ (some 40) rfl rfl Try.func47 (by kernel_rfl) rfl #[.agg #[.int .i64 t1408, .int .i64 t1409], .int .i64 t1410] rfl (by (try simp only [List.map_toArray, List.map_cons, List.map_nil]); first | done | rfl | (simp only [List.length_drop, List.length_take]; rfl)) ?_; (with_reducible refine (spec_PlaceOf.calls k t1408 t1409 t1410 t1415 t1416 t1417 _ A6.out).mono ?_); rintro e w14 ⟨rfl, hb⟩; refine ⟨_, rfl, ?_⟩; have n0_ := Aside0.mk (blk_below (g := gb1411) (o := .cells #[.int .i64 t1408, .int .i64 t1409] 73 (0, 0)) (by (with_reducible repeat (first | refine blk_drewN ?_ _ | refine blk_drew ?_ | refine blk_alloc ?_ _)); exact BK1411.out) hb); have n1_ := Aside0.mk (below_step (by repeat (first | (with_reducible first | exact HB.out | apply below_alloc | apply pw_below_drewN | apply below_drew1 | refine below_set ?_ GE1411.out) | exact HB.out)) hb); clear BK1411; clear HB; have BK1411 := n0_; have HB := n1_; clear n0_ n1_; (try clear hb); (try clear hb2); (try clear hk); (try clear hi)))
   (try simp only [Act.put, List.setIfInBounds_toArray, List.set_cons_zero, List.set_cons_succ])
   go_cut [] (fun wc => ∃ (kq : Nat), Aside0 (laws_FnBars.j0 kq l0 = some r) ∧ Aside0 (kq ≤ k) ∧ Aside0 (wc.heap[gb1411]? = some (.cells #[.int .i64 t1408, .int .i64 t1409] 73 (0, 0))) ∧ Aside0 (Below w.heap.size w wc))
   case first =>
    have H := HC8.out
    clear HC8
    by_cases c15 : t1412 > 0
    ·
     rw [if_pos c15] at H
     have c15b0 : decide (0 < t1412) = true := decide_eq_true c15
     clear c15
     (first | rw [c15b0] | (simp only [i64_w, i32_w]; rw [c15b0]) | skip)
     replace H := Option.bind_eq_some_iff.mp H
     obtain ⟨⟨t1418, t1419⟩, A160, H⟩ := H
     try dsimp only at H
     have A16 := Aside0.mk A160
     clear A160
     by_cases c17 : t1412 ≤ 500
     ·
      rw [if_pos c17] at H
      have c17b0 : decide (t1412 ≤ 500) = true := decide_eq_true c17
      clear c17
      by_cases c18 : t1419 = true
      ·
       subst c18
       rw [if_pos rfl] at H
       by_cases c19 : (wrap64 (t1418 + t1414)) = t1410
       ·
        rw [if_pos c19] at H
        have c19b0 : ((wrap64 (t1418 + t1414)) == t1410) = true := beq_iff_eq.mpr c19
        have c19b1 : ((wrap64 (t1418 + t1414)) != t1410) = false := bne_eq_false_iff_eq.mpr c19
        clear c19
        by_cases c20 : t1414 < 0
        ·
         rw [if_pos c20] at H
         have c20b0 : decide (t1414 < 0) = true := decide_eq_true c20
         clear c20
         obtain rfl := Option.some.inj H
         have hcz21_0 : w14.cell? ⟨gb1411, 0, none⟩ = some (.int .i64 t1408) := (blk_cell BK1411.out 0).trans rfl
         have hcz21_1 : w14.cell? ⟨gb1411, 1, none⟩ = some (.int .i64 t1409) := (blk_cell BK1411.out 1).trans rfl
         have hfz21_0 := blk_frozen BK1411.out 0
         have hfz21_1 := blk_frozen BK1411.out 1
         go_wp2_with (first | ((with_reducible refine gate_callee (f := 48) rfl ?_); refine goesL_ (some 53) rfl rfl Try.func48 (by kernel_rfl) rfl #[.agg #[.int .i64 t1408, .int .i64 t1409], .int .i64 t1412, .int .i64 t1413] rfl (by (try simp only [List.map_toArray, List.map_cons, List.map_nil]); first | done | rfl | (simp only [List.length_drop, List.length_take]; rfl)) ?_; (with_reducible refine (impl_TickOf.calls k t1408 t1409 t1412 t1413 t1418 true _ A16.out).mono ?_); rintro e w22 ⟨rfl, hb⟩; refine ⟨_, rfl, ?_⟩; have n0_ := Aside0.mk (blk_below (g := gb1411) (o := .cells #[.int .i64 t1408, .int .i64 t1409] 73 (0, 0)) (by (with_reducible repeat (first | refine blk_drewN ?_ _ | refine blk_drew ?_ | refine blk_alloc ?_ _)); exact BK1411.out) hb); have n1_ := Aside0.mk (below_step (by repeat (first | (with_reducible first | exact HB.out | apply below_alloc | apply pw_below_drewN | apply below_drew1 | refine below_set ?_ GE1411.out) | exact HB.out)) hb); clear BK1411; clear HB; have BK1411 := n0_; have HB := n1_; clear n0_ n1_; (try clear hb); (try clear hb2); (try clear hk); (try clear hi)))
         go_ret
         exact ⟨by first | rfl | (simp [errW_none, errW_some] <;> rfl) | (simp [*, errW_none, errW_some] <;> rfl), by repeat (first | (with_reducible first | exact HB.out | apply below_alloc | apply pw_below_drewN | apply below_drew1 | refine below_set ?_ GE1411.out) | exact HB.out)⟩
        ·
         rw [if_neg c20] at H
         have c20b0 : decide (t1414 < 0) = false := decide_eq_false c20
         clear c20
         have H' := Aside0.mk H
         clear H
         have hcz23_0 : w14.cell? ⟨gb1411, 0, none⟩ = some (.int .i64 t1408) := (blk_cell BK1411.out 0).trans rfl
         have hcz23_1 : w14.cell? ⟨gb1411, 1, none⟩ = some (.int .i64 t1409) := (blk_cell BK1411.out 1).trans rfl
         have hfz23_0 := blk_frozen BK1411.out 0
         have hfz23_1 := blk_frozen BK1411.out 1
         go_wp2_with (first | ((with_reducible refine gate_callee (f := 48) rfl ?_); refine goesL_ (some 53) rfl rfl Try.func48 (by kernel_rfl) rfl #[.agg #[.int .i64 t1408, .int .i64 t1409], .int .i64 t1412, .int .i64 t1413] rfl (by (try simp only [List.map_toArray, List.map_cons, List.map_nil]); first | done | rfl | (simp only [List.length_drop, List.length_take]; rfl)) ?_; (with_reducible refine (impl_TickOf.calls k t1408 t1409 t1412 t1413 t1418 true _ A16.out).mono ?_); rintro e w24 ⟨rfl, hb⟩; refine ⟨_, rfl, ?_⟩; have n0_ := Aside0.mk (blk_below (g := gb1411) (o := .cells #[.int .i64 t1408, .int .i64 t1409] 73 (0, 0)) (by (with_reducible repeat (first | refine blk_drewN ?_ _ | refine blk_drew ?_ | refine blk_alloc ?_ _)); exact BK1411.out) hb); have n1_ := Aside0.mk (below_step (by repeat (first | (with_reducible first | exact HB.out | apply below_alloc | apply pw_below_drewN | apply below_drew1 | refine below_set ?_ GE1411.out) | exact HB.out)) hb); clear BK1411; clear HB; have BK1411 := n0_; have HB := n1_; clear n0_ n1_; (try clear hb); (try clear hb2); (try clear hk); (try clear hi)))
         go_meet
         case rel => exact ⟨_, H', ⟨by first | omega | exact Nat.le_refl _⟩, ⟨by (with_reducible repeat (first | refine blk_drewN ?_ _ | refine blk_drew ?_ | refine blk_alloc ?_ _)); exact BK1411.out⟩, ⟨by repeat (first | (with_reducible first | exact HB.out | apply below_alloc | apply pw_below_drewN | apply below_drew1 | refine below_set ?_ GE1411.out) | exact HB.out)⟩⟩
       ·
        rw [if_neg c19] at H
        have c19b0 : ((wrap64 (t1418 + t1414)) == t1410) = false := beq_eq_false_iff_ne.mpr c19
        have c19b1 : ((wrap64 (t1418 + t1414)) != t1410) = true := bne_iff_ne.mpr c19
        obtain rfl := Option.some.inj H
        have hcz25_0 : w14.cell? ⟨gb1411, 0, none⟩ = some (.int .i64 t1408) := (blk_cell BK1411.out 0).trans rfl
        have hcz25_1 : w14.cell? ⟨gb1411, 1, none⟩ = some (.int .i64 t1409) := (blk_cell BK1411.out 1).trans rfl
        have hfz25_0 := blk_frozen BK1411.out 0
        have hfz25_1 := blk_frozen BK1411.out 1
        go_wp2_with (first | ((with_reducible refine gate_callee (f := 48) rfl ?_); refine goesL_ (some 53) rfl rfl Try.func48 (by kernel_rfl) rfl #[.agg #[.int .i64 t1408, .int .i64 t1409], .int .i64 t1412, .int .i64 t1413] rfl (by (try simp only [List.map_toArray, List.map_cons, List.map_nil]); first | done | rfl | (simp only [List.length_drop, List.length_take]; rfl)) ?_; (with_reducible refine (impl_TickOf.calls k t1408 t1409 t1412 t1413 t1418 true _ A16.out).mono ?_); rintro e w26 ⟨rfl, hb⟩; refine ⟨_, rfl, ?_⟩; have n0_ := Aside0.mk (blk_below (g := gb1411) (o := .cells #[.int .i64 t1408, .int .i64 t1409] 73 (0, 0)) (by (with_reducible repeat (first | refine blk_drewN ?_ _ | refine blk_drew ?_ | refine blk_alloc ?_ _)); exact BK1411.out) hb); have n1_ := Aside0.mk (below_step (by repeat (first | (with_reducible first | exact HB.out | apply below_alloc | apply pw_below_drewN | apply below_drew1 | refine below_set ?_ GE1411.out) | exact HB.out)) hb); clear BK1411; clear HB; have BK1411 := n0_; have HB := n1_; clear n0_ n1_; (try clear hb); (try clear hb2); (try clear hk); (try clear hi)))
        go_ret
        exact ⟨by first | rfl | (simp [errW_none, errW_some] <;> rfl) | (simp [*, errW_none, errW_some] <;> rfl), by repeat (first | (with_reducible first | exact HB.out | apply below_alloc | apply pw_below_drewN | apply below_drew1 | refine below_set ?_ GE1411.out) | exact HB.out)⟩
      ·
       replace c18 := Bool.eq_false_iff.mpr c18
       subst c18
       rw [if_neg (show ¬ (false = true) by decide)] at H
       obtain rfl := Option.some.inj H
       have hcz27_0 : w14.cell? ⟨gb1411, 0, none⟩ = some (.int .i64 t1408) := (blk_cell BK1411.out 0).trans rfl
       have hcz27_1 : w14.cell? ⟨gb1411, 1, none⟩ = some (.int .i64 t1409) := (blk_cell BK1411.out 1).trans rfl
       have hfz27_0 := blk_frozen BK1411.out 0
       have hfz27_1 := blk_frozen BK1411.out 1
       go_wp2_with (first | ((with_reducible refine gate_callee (f := 48) rfl ?_); refine goesL_ (some 53) rfl rfl Try.func48 (by kernel_rfl) rfl #[.agg #[.int .i64 t1408, .int .i64 t1409], .int .i64 t1412, .int .i64 t1413] rfl (by (try simp only [List.map_toArray, List.map_cons, List.map_nil]); first | done | rfl | (simp only [List.length_drop, List.length_take]; rfl)) ?_; (with_reducible refine (impl_TickOf.calls k t1408 t1409 t1412 t1413 t1418 false _ A16.out).mono ?_); rintro e w28 ⟨rfl, hb⟩; refine ⟨_, rfl, ?_⟩; have n0_ := Aside0.mk (blk_below (g := gb1411) (o := .cells #[.int .i64 t1408, .int .i64 t1409] 73 (0, 0)) (by (with_reducible repeat (first | refine blk_drewN ?_ _ | refine blk_drew ?_ | refine blk_alloc ?_ _)); exact BK1411.out) hb); have n1_ := Aside0.mk (below_step (by repeat (first | (with_reducible first | exact HB.out | apply below_alloc | apply pw_below_drewN | apply below_drew1 | refine below_set ?_ GE1411.out) | exact HB.out)) hb); clear BK1411; clear HB; have BK1411 := n0_; have HB := n1_; clear n0_ n1_; (try clear hb); (try clear hb2); (try clear hk); (try clear hi)))
       go_ret
       exact ⟨by first | rfl | (simp [errW_none, errW_some] <;> rfl) | (simp [*, errW_none, errW_some] <;> rfl), by repeat (first | (with_reducible first | exact HB.out | apply below_alloc | apply pw_below_drewN | apply below_drew1 | refine below_set ?_ GE1411.out) | exact HB.out)⟩
     ·
      rw [if_neg c17] at H
      have c17b0 : decide (t1412 ≤ 500) = false := decide_eq_false c17
      clear c17
      by_cases c29 : t1414 < 0
      ·
       rw [if_pos c29] at H
       have c29b0 : decide (t1414 < 0) = true := decide_eq_true c29
       clear c29
       obtain rfl := Option.some.inj H
       have hcz30_0 : w14.cell? ⟨gb1411, 0, none⟩ = some (.int .i64 t1408) := (blk_cell BK1411.out 0).trans rfl
       have hcz30_1 : w14.cell? ⟨gb1411, 1, none⟩ = some (.int .i64 t1409) := (blk_cell BK1411.out 1).trans rfl
       have hfz30_0 := blk_frozen BK1411.out 0
       have hfz30_1 := blk_frozen BK1411.out 1
       go_wp2_with (first | ((with_reducible refine gate_callee (f := 48) rfl ?_); refine goesL_ (some 53) rfl rfl Try.func48 (by kernel_rfl) rfl #[.agg #[.int .i64 t1408, .int .i64 t1409], .int .i64 t1412, .int .i64 t1413] rfl (by (try simp only [List.map_toArray, List.map_cons, List.map_nil]); first | done | rfl | (simp only [List.length_drop, List.length_take]; rfl)) ?_; (with_reducible refine (impl_TickOf.calls k t1408 t1409 t1412 t1413 t1418 t1419 _ A16.out).mono ?_); rintro e w31 ⟨rfl, hb⟩; refine ⟨_, rfl, ?_⟩; have n0_ := Aside0.mk (blk_below (g := gb1411) (o := .cells #[.int .i64 t1408, .int .i64 t1409] 73 (0, 0)) (by (with_reducible repeat (first | refine blk_drewN ?_ _ | refine blk_drew ?_ | refine blk_alloc ?_ _)); exact BK1411.out) hb); have n1_ := Aside0.mk (below_step (by repeat (first | (with_reducible first | exact HB.out | apply below_alloc | apply pw_below_drewN | apply below_drew1 | refine below_set ?_ GE1411.out) | exact HB.out)) hb); clear BK1411; clear HB; have BK1411 := n0_; have HB := n1_; clear n0_ n1_; (try clear hb); (try clear hb2); (try clear hk); (try clear hi)))
       go_ret
       exact ⟨by first | rfl | (simp [errW_none, errW_some] <;> rfl) | (simp [*, errW_none, errW_some] <;> rfl), by repeat (first | (with_reducible first | exact HB.out | apply below_alloc | apply pw_below_drewN | apply below_drew1 | refine below_set ?_ GE1411.out) | exact HB.out)⟩
      ·
       rw [if_neg c29] at H
       have c29b0 : decide (t1414 < 0) = false := decide_eq_false c29
       clear c29
       have H' := Aside0.mk H
       clear H
       have hcz32_0 : w14.cell? ⟨gb1411, 0, none⟩ = some (.int .i64 t1408) := (blk_cell BK1411.out 0).trans rfl
       have hcz32_1 : w14.cell? ⟨gb1411, 1, none⟩ = some (.int .i64 t1409) := (blk_cell BK1411.out 1).trans rfl
       have hfz32_0 := blk_frozen BK1411.out 0
       have hfz32_1 := blk_frozen BK1411.out 1
       go_wp2_with (first | ((with_reducible refine gate_callee (f := 48) rfl ?_); refine goesL_ (some 53) rfl rfl Try.func48 (by kernel_rfl) rfl #[.agg #[.int .i64 t1408, .int .i64 t1409], .int .i64 t1412, .int .i64 t1413] rfl (by (try simp only [List.map_toArray, List.map_cons, List.map_nil]); first | done | rfl | (simp only [List.length_drop, List.length_take]; rfl)) ?_; (with_reducible refine (impl_TickOf.calls k t1408 t1409 t1412 t1413 t1418 t1419 _ A16.out).mono ?_); rintro e w33 ⟨rfl, hb⟩; refine ⟨_, rfl, ?_⟩; have n0_ := Aside0.mk (blk_below (g := gb1411) (o := .cells #[.int .i64 t1408, .int .i64 t1409] 73 (0, 0)) (by (with_reducible repeat (first | refine blk_drewN ?_ _ | refine blk_drew ?_ | refine blk_alloc ?_ _)); exact BK1411.out) hb); have n1_ := Aside0.mk (below_step (by repeat (first | (with_reducible first | exact HB.out | apply below_alloc | apply pw_below_drewN | apply below_drew1 | refine below_set ?_ GE1411.out) | exact HB.out)) hb); clear BK1411; clear HB; have BK1411 := n0_; have HB := n1_; clear n0_ n1_; (try clear hb); (try clear hb2); (try clear hk); (try clear hi)))
       go_meet
       case rel => exact ⟨_, H', ⟨by first | omega | exact Nat.le_refl _⟩, ⟨by (with_reducible repeat (first | refine blk_drewN ?_ _ | refine blk_drew ?_ | refine blk_alloc ?_ _)); exact BK1411.out⟩, ⟨by repeat (first | (with_reducible first | exact HB.out | apply below_alloc | apply pw_below_drewN | apply below_drew1 | refine below_set ?_ GE1411.out) | exact HB.out)⟩⟩
    ·
     rw [if_neg c15] at H
     have c15b0 : decide (0 < t1412) = false := decide_eq_false c15
     clear c15
     (first | rw [c15b0] | (simp only [i64_w, i32_w]; rw [c15b0]) | skip)
     have H' := Aside0.mk H
     clear H
     go_wp2
     go_meet
     case rel => exact ⟨_, H', ⟨by first | omega | exact Nat.le_refl _⟩, ⟨by (with_reducible repeat (first | refine blk_drewN ?_ _ | refine blk_drew ?_ | refine blk_alloc ?_ _)); exact BK1411.out⟩, ⟨by repeat (first | (with_reducible first | exact HB.out | apply below_alloc | apply pw_below_drewN | apply below_drew1 | refine below_set ?_ GE1411.out) | exact HB.out)⟩⟩
   case rest =>
    clear HC8
    try clear c1
    try clear c2
    try clear p2
    try clear c3
    try clear c4
    try clear p6
    try clear c7
    try clear c7b0
    try clear c7b1
    try clear c10
    try clear c15
    try clear c15b0
    try clear c17
    try clear c17b0
    try clear c18
    try clear c19
    try clear c19b0
    try clear c19b1
    try clear c20
    try clear c20b0
    try clear c29
    try clear c29b0
    try clear hcz11_0
    try clear hcz11_1
    try clear hcz13_0
    try clear hcz13_1
    try clear hcz21_0
    try clear hcz21_1
    try clear hcz23_0
    try clear hcz23_1
    try clear hcz25_0
    try clear hcz25_1
    try clear hcz27_0
    try clear hcz27_1
    try clear hcz30_0
    try clear hcz30_1
    try clear hcz32_0
    try clear hcz32_1
    try clear hfz11_0
    try clear hfz11_1
    try clear hfz13_0
    try clear hfz13_1
    try clear hfz21_0
    try clear hfz21_1
    try clear hfz23_0
    try clear hfz23_1
    try clear hfz25_0
    try clear hfz25_1
    try clear hfz27_0
    try clear hfz27_1
    try clear hfz30_0
    try clear hfz30_1
    try clear hfz32_0
    try clear hfz32_1
    obtain ⟨kq, HA, HJ7, BK1411, HB⟩ := hcut
    cases kq with
    | zero => exact absurd HA.out (by simp [laws_FnBars.j0])
    | succ kj7 =>
     have H := HA.out
     clear HA
     simp only [laws_FnBars.j0] at H
     replace H := Option.bind_eq_some_iff.mp H
     obtain ⟨⟨t1420, t1421, t1422, t1423, t1424, t1425⟩, A340, H⟩ := H
     try dsimp only at H
     have A34 := Aside0.mk A340
     clear A340
     replace H := Option.bind_eq_some_iff.mp H
     obtain ⟨t1428, A350, H⟩ := H
     try dsimp only at H
     have A35 := Aside0.mk A350
     clear A350
     have HC36 := Aside0.mk H
     clear H
     go_upto_if 83 with (first | ((with_reducible refine gate_callee (f := 49) rfl ?_); refine goesL_ (some 75) rfl rfl Try.func49 (by kernel_rfl) rfl #[.slice A0 l0.length c0] rfl (by (try simp only [List.map_toArray, List.map_cons, List.map_nil]); first | done | rfl | (simp only [List.length_drop, List.length_take]; rfl)) ?_; (with_reducible refine (spec_DrawPiecesOf.calls kj7 _ _ l0 t1420 t1421 t1422 t1423 t1424 t1425 _ ?side1 ?side2 A34.out).mono ?_); (case side1 => repeat (first | exact (Kd.C_below HR0.out HB.out) | (with_reducible refine Kd.C_alloc ?_ _) | (with_reducible refine Kd.C_drewN ?_ _) | (with_reducible refine Kd.C_drew ?_))); (case side2 => exact HC0.out); rintro e w37 ⟨rfl, hb⟩; refine ⟨_, rfl, ?_⟩; have n0_ := Aside0.mk (blk_below (g := gb1411) (o := .cells #[.int .i64 t1408, .int .i64 t1409] 73 (0, 0)) (by (with_reducible repeat (first | refine blk_drewN ?_ _ | refine blk_drew ?_ | refine blk_alloc ?_ _)); exact BK1411.out) hb); have n1_ := Aside0.mk (below_step (by repeat (first | (with_reducible first | exact HB.out | apply below_alloc | apply pw_below_drewN | apply below_drew1 | refine below_set ?_ GE1411.out) | exact HB.out)) hb); clear BK1411; clear HB; have BK1411 := n0_; have HB := n1_; clear n0_ n1_; (try clear hb); (try clear hb2); (try clear hk); (try clear hi)) | ((with_reducible refine gate_dst (N := 13) rfl ?_); refine box_event ?hg (N := 13) ?hd (cs := #[.int .i64 0, .int .i64 0]) (t := 73) ?hr ?_; (case hd => rfl); (case hg => rfl); (case hr => first | (go_simp; done) | (go_simp; rfl)); intro gb1426 hg w38 hbox hb; have n0_ := Aside0.mk (blk_below (g := gb1411) (o := .cells #[.int .i64 t1408, .int .i64 t1409] 73 (0, 0)) (by (with_reducible repeat (first | refine blk_drewN ?_ _ | refine blk_drew ?_ | refine blk_alloc ?_ _)); exact BK1411.out) hb); have n1_ := Aside0.mk (below_step (by repeat (first | (with_reducible first | exact HB.out | apply below_alloc | apply pw_below_drewN | apply below_drew1 | refine below_set ?_ GE1411.out) | exact HB.out)) hb); have n2_ := Aside0.mk (hbox); have n3_ := Aside0.mk ((by rw [hg]; exact (below_size (by repeat (first | (with_reducible first | exact HB.out | apply below_alloc | apply pw_below_drewN | apply below_drew1 | refine below_set ?_ GE1411.out) | exact HB.out))) : w.heap.size ≤ gb1426)); have n4_ := Aside0.mk ((by rw [hg]; exact (below_size (by repeat (first | (with_reducible first | exact HB.out | apply below_alloc | apply pw_below_drewN | apply below_drew1 | refine below_set ?_ GE1411.out) | exact HB.out))) : w.heap.size ≤ gb1426)); have n5_ := Aside0.mk ((by rw [hg]; exact Nat.ne_of_lt (blk_lt (g := gb1411) (o := .cells #[.int .i64 t1408, .int .i64 t1409] 73 (0, 0)) (by (with_reducible repeat (first | refine blk_drewN ?_ _ | refine blk_drew ?_ | refine blk_alloc ?_ _)); exact BK1411.out)) : gb1411 ≠ gb1426)); have n6_ := Aside0.mk ((by rw [hg]; exact Nat.ne_of_gt (blk_lt (g := gb1411) (o := .cells #[.int .i64 t1408, .int .i64 t1409] 73 (0, 0)) (by (with_reducible repeat (first | refine blk_drewN ?_ _ | refine blk_drew ?_ | refine blk_alloc ?_ _)); exact BK1411.out)) : gb1426 ≠ gb1411)); clear BK1411; clear HB; have BK1411 := n0_; have HB := n1_; have BK1426 := n2_; have GW1426 := n3_; have GE1426 := n4_; have NB1411_1426 := n5_; have NB1426_1411 := n6_; clear n0_ n1_ n2_ n3_ n4_ n5_ n6_; clear hb hbox hg) | ((with_reducible refine gate_dst (N := 14) rfl ?_); refine box_event ?hg (N := 14) ?hd (cs := #[.int .i64 0, .int .i64 0, .int .i64 0, .int .i64 0]) (t := 26) ?hr ?_; (case hd => rfl); (case hg => rfl); (case hr => first | (go_simp; done) | (go_simp; rfl)); intro gb1427 hg w39 hbox hb; have n0_ := Aside0.mk (blk_below (g := gb1411) (o := .cells #[.int .i64 t1408, .int .i64 t1409] 73 (0, 0)) (by (with_reducible repeat (first | refine blk_drewN ?_ _ | refine blk_drew ?_ | refine blk_alloc ?_ _)); exact BK1411.out) hb); have n1_ := Aside0.mk (blk_below (g := gb1426) (o := .cells #[.int .i64 0, .int .i64 0] 73 (0, 0)) (by (with_reducible repeat (first | refine blk_drewN ?_ _ | refine blk_drew ?_ | refine blk_alloc ?_ _)); exact BK1426.out) hb); have n2_ := Aside0.mk (below_step (by repeat (first | (with_reducible first | exact HB.out | apply below_alloc | apply pw_below_drewN | apply below_drew1 | refine below_set ?_ GE1411.out | refine below_set ?_ GE1426.out) | exact HB.out)) hb); have n3_ := Aside0.mk (hbox); have n4_ := Aside0.mk ((by rw [hg]; exact (below_size (by repeat (first | (with_reducible first | exact HB.out | apply below_alloc | apply pw_below_drewN | apply below_drew1 | refine below_set ?_ GE1411.out | refine below_set ?_ GE1426.out) | exact HB.out))) : w.heap.size ≤ gb1427)); have n5_ := Aside0.mk ((by rw [hg]; exact (below_size (by repeat (first | (with_reducible first | exact HB.out | apply below_alloc | apply pw_below_drewN | apply below_drew1 | refine below_set ?_ GE1411.out | refine below_set ?_ GE1426.out) | exact HB.out))) : w.heap.size ≤ gb1427)); have n6_ := Aside0.mk ((by rw [hg]; exact Nat.ne_of_lt (blk_lt (g := gb1411) (o := .cells #[.int .i64 t1408, .int .i64 t1409] 73 (0, 0)) (by (with_reducible repeat (first | refine blk_drewN ?_ _ | refine blk_drew ?_ | refine blk_alloc ?_ _)); exact BK1411.out)) : gb1411 ≠ gb1427)); have n7_ := Aside0.mk ((by rw [hg]; exact Nat.ne_of_gt (blk_lt (g := gb1411) (o := .cells #[.int .i64 t1408, .int .i64 t1409] 73 (0, 0)) (by (with_reducible repeat (first | refine blk_drewN ?_ _ | refine blk_drew ?_ | refine blk_alloc ?_ _)); exact BK1411.out)) : gb1427 ≠ gb1411)); have n8_ := Aside0.mk ((by rw [hg]; exact Nat.ne_of_lt (blk_lt (g := gb1426) (o := .cells #[.int .i64 0, .int .i64 0] 73 (0, 0)) (by (with_reducible repeat (first | refine blk_drewN ?_ _ | refine blk_drew ?_ | refine blk_alloc ?_ _)); exact BK1426.out)) : gb1426 ≠ gb1427)); have n9_ := Aside0.mk ((by rw [hg]; exact Nat.ne_of_gt (blk_lt (g := gb1426) (o := .cells #[.int .i64 0, .int .i64 0] 73 (0, 0)) (by (with_reducible repeat (first | refine blk_drewN ?_ _ | refine blk_drew ?_ | refine blk_alloc ?_ _)); exact BK1426.out)) : gb1427 ≠ gb1426)); clear BK1411; clear BK1426; clear HB; have BK1411 := n0_; have BK1426 := n1_; have HB := n2_; have BK1427 := n3_; have GW1427 := n4_; have GE1427 := n5_; have NB1411_1427 := n6_; have NB1427_1411 := n7_; have NB1426_1427 := n8_; have NB1427_1426 := n9_; clear n0_ n1_ n2_ n3_ n4_ n5_ n6_ n7_ n8_ n9_; clear hb hbox hg; have hnb40 := NB1426_1411.out; have hnc40 := NB1411_1426.out; have hnb41 := NB1426_1427.out; have hnc41 := NB1427_1426.out; have hcz42_0 : w39.cell? ⟨gb1426, 0, none⟩ = some (.int .i64 0) := (blk_cell BK1426.out 0).trans rfl; have hcz42_1 : w39.cell? ⟨gb1426, 1, none⟩ = some (.int .i64 0) := (blk_cell BK1426.out 1).trans rfl; have hfz42_0 := blk_frozen BK1426.out 0; have hfz42_1 := blk_frozen BK1426.out 1; have hnb43 := NB1427_1411.out; have hnc43 := NB1411_1427.out; have hcz44_0 : w39.cell? ⟨gb1427, 0, none⟩ = some (.int .i64 0) := (blk_cell BK1427.out 0).trans rfl; have hcz44_1 : w39.cell? ⟨gb1427, 1, none⟩ = some (.int .i64 0) := (blk_cell BK1427.out 1).trans rfl; have hcz44_2 : w39.cell? ⟨gb1427, 2, none⟩ = some (.int .i64 0) := (blk_cell BK1427.out 2).trans rfl; have hcz44_3 : w39.cell? ⟨gb1427, 3, none⟩ = some (.int .i64 0) := (blk_cell BK1427.out 3).trans rfl; have hfz44_0 := blk_frozen BK1427.out 0; have hfz44_1 := blk_frozen BK1427.out 1; have hfz44_2 := blk_frozen BK1427.out 2; have hfz44_3 := blk_frozen BK1427.out 3) | ((with_reducible refine gate_callee (f := 50) rfl ?_); refine goesL_ (some 80) rfl rfl Try.func50 (by kernel_rfl) rfl #[.agg #[.int .i64 t1420, .int .i64 t1421], .agg #[.int .i64 t1422, .int .i64 t1423, .int .i64 t1424, .int .i64 t1425]] rfl (by (try simp only [List.map_toArray, List.map_cons, List.map_nil]); first | done | rfl | (simp only [List.length_drop, List.length_take]; rfl)) ?_; (with_reducible refine (impl_PiecesOf.calls kj7 t1420 t1421 t1422 t1423 t1424 t1425 t1428 _ A35.out).mono ?_); rintro e w45 ⟨v1429, rfl, ho0, hb⟩; refine ⟨_, rfl, ?_⟩; have n0_ := Aside0.mk (Kd.R_lower ho0 (below_size (by repeat (first | (with_reducible first | exact HB.out | apply below_alloc | apply pw_below_drewN | apply below_drew1 | refine below_set ?_ GE1411.out | refine below_set ?_ GE1426.out | refine below_set ?_ GE1427.out) | exact HB.out)))); have n1_ := Aside0.mk (blk_below (g := gb1411) (o := .cells #[.int .i64 t1408, .int .i64 t1409] 73 (0, 0)) (by (with_reducible repeat (first | refine blk_drewN ?_ _ | refine blk_drew ?_ | refine blk_alloc ?_ _)); refine blk_far ?_ NB1411_1427.out _; (with_reducible repeat (first | refine blk_drewN ?_ _ | refine blk_drew ?_ | refine blk_alloc ?_ _)); refine blk_far ?_ NB1411_1427.out _; (with_reducible repeat (first | refine blk_drewN ?_ _ | refine blk_drew ?_ | refine blk_alloc ?_ _)); refine blk_far ?_ NB1411_1427.out _; (with_reducible repeat (first | refine blk_drewN ?_ _ | refine blk_drew ?_ | refine blk_alloc ?_ _)); refine blk_far ?_ NB1411_1427.out _; (with_reducible repeat (first | refine blk_drewN ?_ _ | refine blk_drew ?_ | refine blk_alloc ?_ _)); refine blk_far ?_ NB1411_1426.out _; (with_reducible repeat (first | refine blk_drewN ?_ _ | refine blk_drew ?_ | refine blk_alloc ?_ _)); refine blk_far ?_ NB1411_1426.out _; (with_reducible repeat (first | refine blk_drewN ?_ _ | refine blk_drew ?_ | refine blk_alloc ?_ _)); exact BK1411.out) hb); have n2_ := Aside0.mk (blk_below (g := gb1426) (o := .cells #[.int .i64 t1420, .int .i64 t1421] 73 (0, 0)) (by (with_reducible repeat (first | refine blk_drewN ?_ _ | refine blk_drew ?_ | refine blk_alloc ?_ _)); refine blk_far ?_ NB1426_1427.out _; (with_reducible repeat (first | refine blk_drewN ?_ _ | refine blk_drew ?_ | refine blk_alloc ?_ _)); refine blk_far ?_ NB1426_1427.out _; (with_reducible repeat (first | refine blk_drewN ?_ _ | refine blk_drew ?_ | refine blk_alloc ?_ _)); refine blk_far ?_ NB1426_1427.out _; (with_reducible repeat (first | refine blk_drewN ?_ _ | refine blk_drew ?_ | refine blk_alloc ?_ _)); refine blk_far ?_ NB1426_1427.out _; (with_reducible repeat (first | refine blk_drewN ?_ _ | refine blk_drew ?_ | refine blk_alloc ?_ _)); refine blk_put (cs := #[.int .i64 t1420, .int .i64 0]) ?_ 1 _ rfl; (with_reducible repeat (first | refine blk_drewN ?_ _ | refine blk_drew ?_ | refine blk_alloc ?_ _)); refine blk_put (cs := #[.int .i64 0, .int .i64 0]) ?_ 0 _ rfl; (with_reducible repeat (first | refine blk_drewN ?_ _ | refine blk_drew ?_ | refine blk_alloc ?_ _)); exact BK1426.out) hb); have n3_ := Aside0.mk (blk_below (g := gb1427) (o := .cells #[.int .i64 t1422, .int .i64 t1423, .int .i64 t1424, .int .i64 t1425] 26 (0, 0)) (by (with_reducible repeat (first | refine blk_drewN ?_ _ | refine blk_drew ?_ | refine blk_alloc ?_ _)); refine blk_put (cs := #[.int .i64 t1422, .int .i64 t1423, .int .i64 t1424, .int .i64 0]) ?_ 3 _ rfl; (with_reducible repeat (first | refine blk_drewN ?_ _ | refine blk_drew ?_ | refine blk_alloc ?_ _)); refine blk_put (cs := #[.int .i64 t1422, .int .i64 t1423, .int .i64 0, .int .i64 0]) ?_ 2 _ rfl; (with_reducible repeat (first | refine blk_drewN ?_ _ | refine blk_drew ?_ | refine blk_alloc ?_ _)); refine blk_put (cs := #[.int .i64 t1422, .int .i64 0, .int .i64 0, .int .i64 0]) ?_ 1 _ rfl; (with_reducible repeat (first | refine blk_drewN ?_ _ | refine blk_drew ?_ | refine blk_alloc ?_ _)); refine blk_put (cs := #[.int .i64 0, .int .i64 0, .int .i64 0, .int .i64 0]) ?_ 0 _ rfl; (with_reducible repeat (first | refine blk_drewN ?_ _ | refine blk_drew ?_ | refine blk_alloc ?_ _)); refine blk_far ?_ NB1427_1426.out _; (with_reducible repeat (first | refine blk_drewN ?_ _ | refine blk_drew ?_ | refine blk_alloc ?_ _)); refine blk_far ?_ NB1427_1426.out _; (with_reducible repeat (first | refine blk_drewN ?_ _ | refine blk_drew ?_ | refine blk_alloc ?_ _)); exact BK1427.out) hb); have n4_ := Aside0.mk (below_step (by repeat (first | (with_reducible first | exact HB.out | apply below_alloc | apply pw_below_drewN | apply below_drew1 | refine below_set ?_ GE1411.out | refine below_set ?_ GE1426.out | refine below_set ?_ GE1427.out) | exact HB.out)) hb); clear BK1411; clear BK1426; clear BK1427; clear HB; have HO1430 := n0_; have BK1411 := n1_; have BK1426 := n2_; have BK1427 := n3_; have HB := n4_; clear n0_ n1_ n2_ n3_ n4_; (try clear hb); (try clear hb2); (try clear hk); (try clear hi); (try clear ho0); obtain ⟨Ao46, co46, eo46⟩ := Kd.R_slice HO1430.out; subst eo46))
     (try simp only [Act.put, List.setIfInBounds_toArray, List.set_cons_zero, List.set_cons_succ])
     go_cut [] (fun wc => ∃ (kq : Nat), Aside0 (laws_FnBars.j3 kq l0 = some r) ∧ Aside0 (kq ≤ kj7) ∧ Aside0 (wc.heap[gb1411]? = some (.cells #[.int .i64 t1408, .int .i64 t1409] 73 (0, 0))) ∧ Aside0 (wc.heap[gb1426]? = some (.cells #[.int .i64 t1420, .int .i64 t1421] 73 (0, 0))) ∧ Aside0 (wc.heap[gb1427]? = some (.cells #[.int .i64 t1422, .int .i64 t1423, .int .i64 t1424, .int .i64 t1425] 26 (0, 0))) ∧ Aside0 (Below w.heap.size w wc))
     case first =>
      have H := HC36.out
      clear HC36
      by_cases c47 : (t1428.length : Int) > 0
      ·
       rw [if_pos c47] at H
       have c47b0 : decide (0 < (t1428.length : Int)) = true := decide_eq_true c47
       have c47b1 : decide (0 < t1428.length) = true := decide_eq_true (by omega)
       clear c47
       (first | rw [c47b0] | (simp only [i64_w, i32_w]; rw [c47b0]) | skip)
       replace H := Option.bind_eq_some_iff.mp H
       obtain ⟨⟨t1431, t1432, t1433⟩, A480, H⟩ := H
       try dsimp only at H
       have A48 := Aside0.mk A480
       clear A480
       have HC49 := Aside0.mk H
       clear H
       go_upto_region 16 with (first | ((with_reducible refine gate_callee (f := 51) rfl ?_); refine goesL_ (some 86) rfl rfl Try.func51 (by kernel_rfl) rfl #[.slice Ao46 t1428.length co46] rfl (by (try simp only [List.map_toArray, List.map_cons, List.map_nil]); first | done | rfl | (simp only [List.length_drop, List.length_take]; rfl)) ?_; (with_reducible refine (impl_JoinPieces.calls kj7 _ _ t1428 t1431 t1432 t1433 _ ?side1 ?side2 A48.out).mono ?_); (case side1 => repeat (first | exact (Kd.R_reads' HO1430.out).2.2 | (with_reducible refine Kd.C_alloc ?_ _) | (with_reducible refine Kd.C_drewN ?_ _) | (with_reducible refine Kd.C_drew ?_))); (case side2 => exact (Kd.R_reads' HO1430.out).2.1); rintro e w50 ⟨rfl, hb⟩; refine ⟨_, rfl, ?_⟩; have n0_ := Aside0.mk (Kd.R_below (by (with_reducible repeat (first | apply Kd.R_alloc | apply Kd.R_drewN | apply Kd.R_drew)); exact HO1430.out) hb); have n1_ := Aside0.mk (blk_below (g := gb1411) (o := .cells #[.int .i64 t1408, .int .i64 t1409] 73 (0, 0)) (by (with_reducible repeat (first | refine blk_drewN ?_ _ | refine blk_drew ?_ | refine blk_alloc ?_ _)); exact BK1411.out) hb); have n2_ := Aside0.mk (blk_below (g := gb1426) (o := .cells #[.int .i64 t1420, .int .i64 t1421] 73 (0, 0)) (by (with_reducible repeat (first | refine blk_drewN ?_ _ | refine blk_drew ?_ | refine blk_alloc ?_ _)); exact BK1426.out) hb); have n3_ := Aside0.mk (blk_below (g := gb1427) (o := .cells #[.int .i64 t1422, .int .i64 t1423, .int .i64 t1424, .int .i64 t1425] 26 (0, 0)) (by (with_reducible repeat (first | refine blk_drewN ?_ _ | refine blk_drew ?_ | refine blk_alloc ?_ _)); exact BK1427.out) hb); have n4_ := Aside0.mk (below_step (by repeat (first | (with_reducible first | exact HB.out | apply below_alloc | apply pw_below_drewN | apply below_drew1 | refine below_set ?_ GE1411.out | refine below_set ?_ GE1426.out | refine below_set ?_ GE1427.out) | exact HB.out)) hb); clear HO1430; clear BK1411; clear BK1426; clear BK1427; clear HB; have HO1430 := n0_; have BK1411 := n1_; have BK1426 := n2_; have BK1427 := n3_; have HB := n4_; clear n0_ n1_ n2_ n3_ n4_; (try clear hb); (try clear hb2); (try clear hk); (try clear hi)))
       any_goals (exfalso; have hz_ := of_decide_eq_true c47b1; omega)
       (try simp only [Act.put, List.setIfInBounds_toArray, List.set_cons_zero, List.set_cons_succ])
       go_cut [103] (fun v103 wc => ∃ (kq : Nat) (x103_48 : Bool), v103 = .bool x103_48 ∧ Aside0 (laws_FnBars.j1 kq l0 t1428 x103_48 t1420 t1421 = some r) ∧ Aside0 (kq ≤ kj7) ∧ Aside0 (Kd.R k86 86 wc w.heap.size (fun _ => True) (.slice Ao46 t1428.length co46) t1428) ∧ Aside0 (wc.heap[gb1411]? = some (.cells #[.int .i64 t1408, .int .i64 t1409] 73 (0, 0))) ∧ Aside0 (wc.heap[gb1426]? = some (.cells #[.int .i64 t1420, .int .i64 t1421] 73 (0, 0))) ∧ Aside0 (wc.heap[gb1427]? = some (.cells #[.int .i64 t1422, .int .i64 t1423, .int .i64 t1424, .int .i64 t1425] 26 (0, 0))) ∧ Aside0 (Below w.heap.size w wc))
       case first =>
        have H := HC49.out
        clear HC49
        by_cases c51 : t1433 = true
        ·
         subst c51
         rw [if_pos rfl] at H
         by_cases c52 : t1431 = t1422
         ·
          rw [if_pos c52] at H
          have c52b0 : (t1431 == t1422) = true := beq_iff_eq.mpr c52
          have c52b1 : (t1431 != t1422) = false := bne_eq_false_iff_eq.mpr c52
          clear c52
          (first | rw [c52b0] | (simp only [i64_w, i32_w]; rw [c52b0]) | skip)
          have H' := Aside0.mk H
          clear H
          have hnb53 := NB1427_1411.out
          have hnc53 := NB1411_1427.out
          have hnb54 := NB1427_1426.out
          have hnc54 := NB1426_1427.out
          have hcz55_0 : w50.cell? ⟨gb1427, 0, none⟩ = some (.int .i64 t1422) := (blk_cell BK1427.out 0).trans rfl
          have hcz55_1 : w50.cell? ⟨gb1427, 1, none⟩ = some (.int .i64 t1423) := (blk_cell BK1427.out 1).trans rfl
          have hcz55_2 : w50.cell? ⟨gb1427, 2, none⟩ = some (.int .i64 t1424) := (blk_cell BK1427.out 2).trans rfl
          have hcz55_3 : w50.cell? ⟨gb1427, 3, none⟩ = some (.int .i64 t1425) := (blk_cell BK1427.out 3).trans rfl
          have hfz55_0 := blk_frozen BK1427.out 0
          have hfz55_1 := blk_frozen BK1427.out 1
          have hfz55_2 := blk_frozen BK1427.out 2
          have hfz55_3 := blk_frozen BK1427.out 3
          go_wp2
          go_meet
          case rel => exact ⟨_, ((t1432 != t1423)), (by first | rfl | (simp; done) | (simp [*]; done)), H', ⟨by have := HJ7.out; first | omega | exact Nat.le_refl _⟩, ⟨by (with_reducible repeat (first | apply Kd.R_alloc | apply Kd.R_drewN | apply Kd.R_drew)); exact HO1430.out⟩, ⟨by (with_reducible repeat (first | refine blk_drewN ?_ _ | refine blk_drew ?_ | refine blk_alloc ?_ _)); exact BK1411.out⟩, ⟨by (with_reducible repeat (first | refine blk_drewN ?_ _ | refine blk_drew ?_ | refine blk_alloc ?_ _)); exact BK1426.out⟩, ⟨by (with_reducible repeat (first | refine blk_drewN ?_ _ | refine blk_drew ?_ | refine blk_alloc ?_ _)); exact BK1427.out⟩, ⟨by repeat (first | (with_reducible first | exact HB.out | apply below_alloc | apply pw_below_drewN | apply below_drew1 | refine below_set ?_ GE1411.out | refine below_set ?_ GE1426.out | refine below_set ?_ GE1427.out) | exact HB.out)⟩⟩
         ·
          rw [if_neg c52] at H
          have c52b0 : (t1431 == t1422) = false := beq_eq_false_iff_ne.mpr c52
          have c52b1 : (t1431 != t1422) = true := bne_iff_ne.mpr c52
          (first | rw [c52b0] | (simp only [i64_w, i32_w]; rw [c52b0]) | skip)
          have H' := Aside0.mk H
          clear H
          have hnb56 := NB1427_1411.out
          have hnc56 := NB1411_1427.out
          have hnb57 := NB1427_1426.out
          have hnc57 := NB1426_1427.out
          have hcz58_0 : w50.cell? ⟨gb1427, 0, none⟩ = some (.int .i64 t1422) := (blk_cell BK1427.out 0).trans rfl
          have hcz58_1 : w50.cell? ⟨gb1427, 1, none⟩ = some (.int .i64 t1423) := (blk_cell BK1427.out 1).trans rfl
          have hcz58_2 : w50.cell? ⟨gb1427, 2, none⟩ = some (.int .i64 t1424) := (blk_cell BK1427.out 2).trans rfl
          have hcz58_3 : w50.cell? ⟨gb1427, 3, none⟩ = some (.int .i64 t1425) := (blk_cell BK1427.out 3).trans rfl
          have hfz58_0 := blk_frozen BK1427.out 0
          have hfz58_1 := blk_frozen BK1427.out 1
          have hfz58_2 := blk_frozen BK1427.out 2
          have hfz58_3 := blk_frozen BK1427.out 3
          go_wp2
          go_meet
          case rel => exact ⟨_, (true), (by first | rfl | (simp; done) | (simp [*]; done)), H', ⟨by have := HJ7.out; first | omega | exact Nat.le_refl _⟩, ⟨by (with_reducible repeat (first | apply Kd.R_alloc | apply Kd.R_drewN | apply Kd.R_drew)); exact HO1430.out⟩, ⟨by (with_reducible repeat (first | refine blk_drewN ?_ _ | refine blk_drew ?_ | refine blk_alloc ?_ _)); exact BK1411.out⟩, ⟨by (with_reducible repeat (first | refine blk_drewN ?_ _ | refine blk_drew ?_ | refine blk_alloc ?_ _)); exact BK1426.out⟩, ⟨by (with_reducible repeat (first | refine blk_drewN ?_ _ | refine blk_drew ?_ | refine blk_alloc ?_ _)); exact BK1427.out⟩, ⟨by repeat (first | (with_reducible first | exact HB.out | apply below_alloc | apply pw_below_drewN | apply below_drew1 | refine below_set ?_ GE1411.out | refine below_set ?_ GE1426.out | refine below_set ?_ GE1427.out) | exact HB.out)⟩⟩
        ·
         replace c51 := Bool.eq_false_iff.mpr c51
         subst c51
         rw [if_neg (show ¬ (false = true) by decide)] at H
         have H' := Aside0.mk H
         clear H
         go_wp2
         go_meet
         case rel => exact ⟨_, (true), (by first | rfl | (simp; done) | (simp [*]; done)), H', ⟨by have := HJ7.out; first | omega | exact Nat.le_refl _⟩, ⟨by (with_reducible repeat (first | apply Kd.R_alloc | apply Kd.R_drewN | apply Kd.R_drew)); exact HO1430.out⟩, ⟨by (with_reducible repeat (first | refine blk_drewN ?_ _ | refine blk_drew ?_ | refine blk_alloc ?_ _)); exact BK1411.out⟩, ⟨by (with_reducible repeat (first | refine blk_drewN ?_ _ | refine blk_drew ?_ | refine blk_alloc ?_ _)); exact BK1426.out⟩, ⟨by (with_reducible repeat (first | refine blk_drewN ?_ _ | refine blk_drew ?_ | refine blk_alloc ?_ _)); exact BK1427.out⟩, ⟨by repeat (first | (with_reducible first | exact HB.out | apply below_alloc | apply pw_below_drewN | apply below_drew1 | refine below_set ?_ GE1411.out | refine below_set ?_ GE1426.out | refine below_set ?_ GE1427.out) | exact HB.out)⟩⟩
       case rest =>
        clear HC49
        try clear c1
        try clear c2
        try clear p2
        try clear c3
        try clear c4
        try clear c5
        try clear p6
        try clear c7
        try clear c7b0
        try clear c7b1
        try clear c10
        try clear c15
        try clear c15b0
        try clear c17
        try clear c17b0
        try clear c18
        try clear c19
        try clear c19b0
        try clear c19b1
        try clear c20
        try clear c20b0
        try clear c29
        try clear c29b0
        try clear c40
        try clear c41
        try clear c43
        try clear c45
        try clear c46
        try clear c47
        try clear c47b0
        try clear c47b1
        try clear c48
        try clear c49
        try clear c50
        try clear c51
        try clear c52
        try clear c52b0
        try clear c52b1
        try clear c53
        try clear c54
        try clear c56
        try clear c57
        try clear hcz11_0
        try clear hcz11_1
        try clear hcz13_0
        try clear hcz13_1
        try clear hcz21_0
        try clear hcz21_1
        try clear hcz23_0
        try clear hcz23_1
        try clear hcz25_0
        try clear hcz25_1
        try clear hcz27_0
        try clear hcz27_1
        try clear hcz30_0
        try clear hcz30_1
        try clear hcz32_0
        try clear hcz32_1
        try clear hcz42_0
        try clear hcz42_1
        try clear hcz44_0
        try clear hcz44_1
        try clear hcz44_2
        try clear hcz44_3
        try clear hcz55_0
        try clear hcz55_1
        try clear hcz55_2
        try clear hcz55_3
        try clear hcz58_0
        try clear hcz58_1
        try clear hcz58_2
        try clear hcz58_3
        try clear hfz11_0
        try clear hfz11_1
        try clear hfz13_0
        try clear hfz13_1
        try clear hfz21_0
        try clear hfz21_1
        try clear hfz23_0
        try clear hfz23_1
        try clear hfz25_0
        try clear hfz25_1
        try clear hfz27_0
        try clear hfz27_1
        try clear hfz30_0
        try clear hfz30_1
        try clear hfz32_0
        try clear hfz32_1
        try clear hfz42_0
        try clear hfz42_1
        try clear hfz44_0
        try clear hfz44_1
        try clear hfz44_2
        try clear hfz44_3
        try clear hfz55_0
        try clear hfz55_1
        try clear hfz55_2
        try clear hfz55_3
        try clear hfz58_0
        try clear hfz58_1
        try clear hfz58_2
        try clear hfz58_3
        try clear p2
        try clear p6
        obtain ⟨kq, x103_48, rfl, HA, HJ48, HO_15, BK1411, BK1426, BK1427, HB⟩ := hcut
        cases kq with
        | zero => exact absurd HA.out (by simp [laws_FnBars.j1])
        | succ kj48 =>
         have H := HA.out
         clear HA
         simp only [laws_FnBars.j1] at H
         by_cases c59 : x103_48 = true
         ·
          subst c59
          rw [if_pos rfl] at H
          obtain rfl := Option.some.inj H
          go_wp2
          go_ret
          exact ⟨by first | rfl | (simp [errW_none, errW_some] <;> rfl) | (simp [*, errW_none, errW_some] <;> rfl), by repeat (first | (with_reducible first | exact HB.out | apply below_alloc | apply pw_below_drewN | apply below_drew1 | refine below_set ?_ GE1411.out | refine below_set ?_ GE1426.out | refine below_set ?_ GE1427.out) | exact HB.out)⟩
         ·
          replace c59 := Bool.eq_false_iff.mpr c59
          subst c59
          rw [if_neg (show ¬ (false = true) by decide)] at H
          have H' := Aside0.mk H
          clear H
          go_wp2
          go_loopg [19] kj48 (fun kq v19 w' => ∃ (x19_3 : Int), v19 = .int .i64 x19_3 ∧ Aside0 (laws_FnBars.l0 kq l0 t1428 x19_3 t1420 t1421 = some r) ∧ Aside0 (kq ≤ kj48) ∧ Aside0 (Kd.R k86 86 w' w.heap.size (fun _ => True) (.slice Ao46 t1428.length co46) t1428) ∧ Aside0 (w'.heap[gb1411]? = some (.cells #[.int .i64 t1408, .int .i64 t1409] 73 (0, 0))) ∧ Aside0 (w'.heap[gb1426]? = some (.cells #[.int .i64 t1420, .int .i64 t1421] 73 (0, 0))) ∧ Aside0 (w'.heap[gb1427]? = some (.cells #[.int .i64 t1422, .int .i64 t1423, .int .i64 t1424, .int .i64 t1425] 26 (0, 0))) ∧ Aside0 (Below w.heap.size w w'))
          case atStart => exact ⟨(0), (by first | rfl | (simp; done) | (simp [*]; done)), H', ⟨Nat.le_refl _⟩, ⟨by (with_reducible repeat (first | apply Kd.R_alloc | apply Kd.R_drewN | apply Kd.R_drew)); exact HO_15.out⟩, ⟨by (with_reducible repeat (first | refine blk_drewN ?_ _ | refine blk_drew ?_ | refine blk_alloc ?_ _)); exact BK1411.out⟩, ⟨by (with_reducible repeat (first | refine blk_drewN ?_ _ | refine blk_drew ?_ | refine blk_alloc ?_ _)); exact BK1426.out⟩, ⟨by (with_reducible repeat (first | refine blk_drewN ?_ _ | refine blk_drew ?_ | refine blk_alloc ?_ _)); exact BK1427.out⟩, ⟨by repeat (first | (with_reducible first | exact HB.out | apply below_alloc | apply pw_below_drewN | apply below_drew1 | refine below_set ?_ GE1411.out | refine below_set ?_ GE1426.out | refine below_set ?_ GE1427.out) | exact HB.out)⟩⟩
          case round =>
           clear H'
           try clear c1
           try clear c2
           try clear p2
           try clear c3
           try clear c4
           try clear c5
           try clear p6
           try clear c7
           try clear c7b0
           try clear c7b1
           try clear c10
           try clear c15
           try clear c15b0
           try clear c17
           try clear c17b0
           try clear c18
           try clear c19
           try clear c19b0
           try clear c19b1
           try clear c20
           try clear c20b0
           try clear c29
           try clear c29b0
           try clear c40
           try clear c41
           try clear c43
           try clear c45
           try clear c46
           try clear c47
           try clear c47b0
           try clear c47b1
           try clear c48
           try clear c49
           try clear c50
           try clear c51
           try clear c52
           try clear c52b0
           try clear c52b1
           try clear c53
           try clear c54
           try clear c56
           try clear c57
           try clear c59
           try clear hcz11_0
           try clear hcz11_1
           try clear hcz13_0
           try clear hcz13_1
           try clear hcz21_0
           try clear hcz21_1
           try clear hcz23_0
           try clear hcz23_1
           try clear hcz25_0
           try clear hcz25_1
           try clear hcz27_0
           try clear hcz27_1
           try clear hcz30_0
           try clear hcz30_1
           try clear hcz32_0
           try clear hcz32_1
           try clear hcz42_0
           try clear hcz42_1
           try clear hcz44_0
           try clear hcz44_1
           try clear hcz44_2
           try clear hcz44_3
           try clear hcz55_0
           try clear hcz55_1
           try clear hcz55_2
           try clear hcz55_3
           try clear hcz58_0
           try clear hcz58_1
           try clear hcz58_2
           try clear hcz58_3
           try clear hfz11_0
           try clear hfz11_1
           try clear hfz13_0
           try clear hfz13_1
           try clear hfz21_0
           try clear hfz21_1
           try clear hfz23_0
           try clear hfz23_1
           try clear hfz25_0
           try clear hfz25_1
           try clear hfz27_0
           try clear hfz27_1
           try clear hfz30_0
           try clear hfz30_1
           try clear hfz32_0
           try clear hfz32_1
           try clear hfz42_0
           try clear hfz42_1
           try clear hfz44_0
           try clear hfz44_1
           try clear hfz44_2
           try clear hfz44_3
           try clear hfz55_0
           try clear hfz55_1
           try clear hfz55_2
           try clear hfz55_3
           try clear hfz58_0
           try clear hfz58_1
           try clear hfz58_2
           try clear hfz58_3
           try clear p2
           try clear p6
           obtain ⟨x19_3, rfl, HA, HK3, HO_15, BK1411, BK1426, BK1427, HB⟩ := hrel
           cases gk with
           | zero => exact absurd HA.out (by simp [laws_FnBars.l0])
           | succ k3 =>
            have H := HA.out
            clear HA
            simp only [laws_FnBars.l0] at H
            by_cases c60 : x19_3 < (t1428.length : Int)
            ·
             rw [if_pos c60] at H
             have c60b0 : decide (x19_3 < (t1428.length : Int)) = true := decide_eq_true c60
             clear c60
             by_cases c61 : 0 ≤ x19_3
             ·
              rw [if_pos c61] at H
              have c61b0 : decide (0 ≤ x19_3) = true := decide_eq_true c61
              clear c61
              replace H := Option.bind_eq_some_iff.mp H
              obtain ⟨t1435, A620, H⟩ := H
              try dsimp only at H
              have A62 := Aside0.mk A620
              clear A620
              by_cases c63 : t1435 = 0
              ·
               rw [if_pos c63] at H
               exact absurd H (by simp)
              ·
               rw [if_neg c63] at H
               have c63b0 : (t1435 == 0) = false := beq_eq_false_iff_ne.mpr c63
               have c63b1 : (t1435 != 0) = true := bne_iff_ne.mpr c63
               replace H := Option.bind_eq_some_iff.mp H
               obtain ⟨t1438, A640, H⟩ := H
               try dsimp only at H
               have A64 := Aside0.mk A640
               clear A640
               by_cases c65 : t1438 = 0
               ·
                rw [if_pos c65] at H
                exact absurd H (by simp)
               ·
                rw [if_neg c65] at H
                have c65b0 : (t1438 == 0) = false := beq_eq_false_iff_ne.mpr c65
                have c65b1 : (t1438 != 0) = true := bne_iff_ne.mpr c65
                by_cases c66 : (wrap64 (Int.tdiv ((rd_T86 t1428 x19_3).f0) t1435)) = (wrap64 (Int.tdiv (wrap64 ((wrap64 (((rd_T86 t1428 x19_3).f0) + ((rd_T86 t1428 x19_3).f1))) - 1)) t1438))
                ·
                 rw [if_pos c66] at H
                 have c66b0 : ((wrap64 (Int.tdiv ((rd_T86 t1428 x19_3).f0) t1435)) == (wrap64 (Int.tdiv (wrap64 ((wrap64 (((rd_T86 t1428 x19_3).f0) + ((rd_T86 t1428 x19_3).f1))) - 1)) t1438))) = true := beq_iff_eq.mpr c66
                 have c66b1 : ((wrap64 (Int.tdiv ((rd_T86 t1428 x19_3).f0) t1435)) != (wrap64 (Int.tdiv (wrap64 ((wrap64 (((rd_T86 t1428 x19_3).f0) + ((rd_T86 t1428 x19_3).f1))) - 1)) t1438))) = false := bne_eq_false_iff_eq.mpr c66
                 clear c66
                 have H' := Aside0.mk H
                 clear H
                 try go_wp2
                 have n0_ := Aside0.mk (Kd.R_drew HO_15.out)
                 have n1_ := Aside0.mk (blk_drew BK1411.out)
                 have n2_ := Aside0.mk (blk_drew BK1426.out)
                 have n3_ := Aside0.mk (blk_drew BK1427.out)
                 have n4_ := Aside0.mk (below_drew1 HB.out)
                 clear HO_15
                 clear BK1411
                 clear BK1426
                 clear BK1427
                 clear HB
                 have HO_15 := n0_
                 have BK1411 := n1_
                 have BK1426 := n2_
                 have BK1427 := n3_
                 have HB := n4_
                 clear n0_ n1_ n2_ n3_ n4_
                 have p1434 : 0 ≤ (x19_3 : Int) := of_decide_eq_true (by first | (with_reducible assumption) | assumption)
                 have q1434 : x19_3 < (t1428.length : Int) := of_decide_eq_true (by first | (with_reducible assumption) | assumption)
                 obtain ⟨ad1434, e1434, hx1434_0, hx1434_1, hx1434_2⟩ := at_T86 (Kd.R_reads' HO_15.out).2.2 x19_3 p1434 q1434
                 cases e1434
                 replace p1434 := eq_true p1434
                 replace q1434 := eq_true q1434
                 have p1436 : 0 ≤ (x19_3 : Int) := of_decide_eq_true (by first | (with_reducible assumption) | assumption)
                 have q1436 : x19_3 < (t1428.length : Int) := of_decide_eq_true (by first | (with_reducible assumption) | assumption)
                 obtain ⟨ad1436, e1436, hx1436_0, hx1436_1, hx1436_2⟩ := at_T86 (Kd.R_reads' HO_15.out).2.2 x19_3 p1436 q1436
                 obtain rfl : ad1434 = ad1436 := (by injection e1436)
                 replace p1436 := eq_true p1436
                 replace q1436 := eq_true q1436
                 have p1437 : 0 ≤ (x19_3 : Int) := of_decide_eq_true (by first | (with_reducible assumption) | assumption)
                 have q1437 : x19_3 < (t1428.length : Int) := of_decide_eq_true (by first | (with_reducible assumption) | assumption)
                 obtain ⟨ad1437, e1437, hx1437_0, hx1437_1, hx1437_2⟩ := at_T86 (Kd.R_reads' HO_15.out).2.2 x19_3 p1437 q1437
                 obtain rfl : ad1434 = ad1437 := (by injection e1437)
                 replace p1437 := eq_true p1437
                 replace q1437 := eq_true q1437
                 refine BelowW.region (by kernel_rfl) (by kernel_rfl) ?_
                 have hq0_ : wr.drew.cell? ⟨gb1426, 0, none⟩ = some (.int .i64 t1420) := (blk_cell BK1426.out 0).trans rfl
                 have hq1_ : wr.drew.cell? ⟨gb1426, 1, none⟩ = some (.int .i64 t1421) := (blk_cell BK1426.out 1).trans rfl
                 have hq2_ : wr.drew.cell? (ad1434.add ((x19_3).toNat * 3)) = some (.int .i64 ((rd_T86 t1428 x19_3).f0)) := hx1434_0
                 have hq3_ : wr.drew.cell? ⟨(ad1434.add ((x19_3).toNat * 3)).block, (ad1434.add ((x19_3).toNat * 3)).off + 1, none⟩ = some (.int .i64 ((rd_T86 t1428 x19_3).f1)) := hx1434_1
                 have hq4_ : wr.drew.cell? ⟨(ad1434.add ((x19_3).toNat * 3)).block, (ad1434.add ((x19_3).toNat * 3)).off + 2, none⟩ = some (.bool ((rd_T86 t1428 x19_3).f2)) := hx1434_2
                 have hq5_ : wr.drew.cell? (ad1434.add ((x19_3).toNat * 3)) = some (.int .i64 ((rd_T86 t1428 x19_3).f0)) := hx1436_0
                 have hq6_ : wr.drew.cell? ⟨(ad1434.add ((x19_3).toNat * 3)).block, (ad1434.add ((x19_3).toNat * 3)).off + 1, none⟩ = some (.int .i64 ((rd_T86 t1428 x19_3).f1)) := hx1436_1
                 have hq7_ : wr.drew.cell? ⟨(ad1434.add ((x19_3).toNat * 3)).block, (ad1434.add ((x19_3).toNat * 3)).off + 2, none⟩ = some (.bool ((rd_T86 t1428 x19_3).f2)) := hx1436_2
                 have hq8_ : wr.drew.cell? (ad1434.add ((x19_3).toNat * 3)) = some (.int .i64 ((rd_T86 t1428 x19_3).f0)) := hx1437_0
                 have hq9_ : wr.drew.cell? ⟨(ad1434.add ((x19_3).toNat * 3)).block, (ad1434.add ((x19_3).toNat * 3)).off + 1, none⟩ = some (.int .i64 ((rd_T86 t1428 x19_3).f1)) := hx1437_1
                 have hq10_ : wr.drew.cell? ⟨(ad1434.add ((x19_3).toNat * 3)).block, (ad1434.add ((x19_3).toNat * 3)).off + 2, none⟩ = some (.bool ((rd_T86 t1428 x19_3).f2)) := hx1437_2
                 generalize wr.drew = w67 at HO_15 BK1411 BK1426 BK1427 HB hx1434_0 hx1434_1 hx1434_2 hx1436_0 hx1436_1 hx1436_2 hx1437_0 hx1437_1 hx1437_2 hq0_ hq1_ hq2_ hq3_ hq4_ hq5_ hq6_ hq7_ hq8_ hq9_ hq10_ ⊢
                 replace hq0_ := BelowW.at hq0_
                 replace hq1_ := BelowW.at hq1_
                 replace hq2_ := BelowW.at hq2_
                 replace hq3_ := BelowW.at hq3_
                 replace hq4_ := BelowW.at hq4_
                 replace hq5_ := BelowW.at hq5_
                 replace hq6_ := BelowW.at hq6_
                 replace hq7_ := BelowW.at hq7_
                 replace hq8_ := BelowW.at hq8_
                 replace hq9_ := BelowW.at hq9_
                 replace hq10_ := BelowW.at hq10_
                 change wpQuiet _ _ _ _ (List.cons _ _) _
                 repeat (go_big_quiet_step (fail))
                 go_big_quiet_step ((go_at_call 52; (with_reducible refine (impl_BarLong.calls t1420 t1421 t1435 _ A62.out).mono ?_); exact fun _ _ h_ => ⟨h_.1, BelowW.step _ h_.2⟩))
                 repeat (go_big_quiet_step (fail))
                 go_big_quiet_step ((go_at_call 52; (with_reducible refine (impl_BarLong.calls t1420 t1421 t1438 _ A64.out).mono ?_); exact fun _ _ h_ => ⟨h_.1, BelowW.step _ h_.2⟩))
                 repeat (go_big_quiet_step (fail))
                 refine wpQuiet_nil ?_
                 intro w69 hb
                 try simp only [i64_w, i32_w]
                 clear hq0_ hq1_ hq2_ hq3_ hq4_ hq5_ hq6_ hq7_ hq8_ hq9_ hq10_
                 have n0_ := Aside0.mk (Kd.R_below (by (with_reducible repeat (first | apply Kd.R_alloc | apply Kd.R_drewN | apply Kd.R_drew)); exact HO_15.out) hb)
                 have n1_ := Aside0.mk (blk_below (g := gb1411) (o := .cells #[.int .i64 t1408, .int .i64 t1409] 73 (0, 0)) (by (with_reducible repeat (first | refine blk_drewN ?_ _ | refine blk_drew ?_ | refine blk_alloc ?_ _)); exact BK1411.out) hb)
                 have n2_ := Aside0.mk (blk_below (g := gb1426) (o := .cells #[.int .i64 t1420, .int .i64 t1421] 73 (0, 0)) (by (with_reducible repeat (first | refine blk_drewN ?_ _ | refine blk_drew ?_ | refine blk_alloc ?_ _)); exact BK1426.out) hb)
                 have n3_ := Aside0.mk (blk_below (g := gb1427) (o := .cells #[.int .i64 t1422, .int .i64 t1423, .int .i64 t1424, .int .i64 t1425] 26 (0, 0)) (by (with_reducible repeat (first | refine blk_drewN ?_ _ | refine blk_drew ?_ | refine blk_alloc ?_ _)); exact BK1427.out) hb)
                 have n4_ := Aside0.mk (below_step (by repeat (first | (with_reducible first | exact HB.out | apply below_alloc | apply pw_below_drewN | apply below_drew1 | refine below_set ?_ GE1411.out | refine below_set ?_ GE1426.out | refine below_set ?_ GE1427.out) | exact HB.out)) hb)
                 clear HO_15
                 clear BK1411
                 clear BK1426
                 clear BK1427
                 clear HB
                 have HO_15 := n0_
                 have BK1411 := n1_
                 have BK1426 := n2_
                 have BK1427 := n3_
                 have HB := n4_
                 clear n0_ n1_ n2_ n3_ n4_
                 (try clear hb)
                 (try clear hb2)
                 (try clear hk)
                 (try clear hi)
                 try go_wp2
                 go_roundg k3
                 case measure => have := HJ7.out; have := HJ48.out; have := HK3.out; omega
                 case rel => exact ⟨(wrap64 (x19_3 + 1)), (by first | rfl | (simp; done) | (simp [*]; done)), H', ⟨by have := HJ7.out; have := HJ48.out; have := HK3.out; omega⟩, ⟨by (with_reducible repeat (first | apply Kd.R_alloc | apply Kd.R_drewN | apply Kd.R_drew)); exact HO_15.out⟩, ⟨by (with_reducible repeat (first | refine blk_drewN ?_ _ | refine blk_drew ?_ | refine blk_alloc ?_ _)); exact BK1411.out⟩, ⟨by (with_reducible repeat (first | refine blk_drewN ?_ _ | refine blk_drew ?_ | refine blk_alloc ?_ _)); exact BK1426.out⟩, ⟨by (with_reducible repeat (first | refine blk_drewN ?_ _ | refine blk_drew ?_ | refine blk_alloc ?_ _)); exact BK1427.out⟩, ⟨by repeat (first | (with_reducible first | exact HB.out | apply below_alloc | apply pw_below_drewN | apply below_drew1 | refine below_set ?_ GE1411.out | refine below_set ?_ GE1426.out | refine below_set ?_ GE1427.out) | exact HB.out)⟩⟩
                ·
                 rw [if_neg c66] at H
                 have c66b0 : ((wrap64 (Int.tdiv ((rd_T86 t1428 x19_3).f0) t1435)) == (wrap64 (Int.tdiv (wrap64 ((wrap64 (((rd_T86 t1428 x19_3).f0) + ((rd_T86 t1428 x19_3).f1))) - 1)) t1438))) = false := beq_eq_false_iff_ne.mpr c66
                 have c66b1 : ((wrap64 (Int.tdiv ((rd_T86 t1428 x19_3).f0) t1435)) != (wrap64 (Int.tdiv (wrap64 ((wrap64 (((rd_T86 t1428 x19_3).f0) + ((rd_T86 t1428 x19_3).f1))) - 1)) t1438))) = true := bne_iff_ne.mpr c66
                 obtain rfl := Option.some.inj H
                 try go_wp2
                 have n0_ := Aside0.mk (Kd.R_drew HO_15.out)
                 have n1_ := Aside0.mk (blk_drew BK1411.out)
                 have n2_ := Aside0.mk (blk_drew BK1426.out)
                 have n3_ := Aside0.mk (blk_drew BK1427.out)
                 have n4_ := Aside0.mk (below_drew1 HB.out)
                 clear HO_15
                 clear BK1411
                 clear BK1426
                 clear BK1427
                 clear HB
                 have HO_15 := n0_
                 have BK1411 := n1_
                 have BK1426 := n2_
                 have BK1427 := n3_
                 have HB := n4_
                 clear n0_ n1_ n2_ n3_ n4_
                 have p1434 : 0 ≤ (x19_3 : Int) := of_decide_eq_true (by first | (with_reducible assumption) | assumption)
                 have q1434 : x19_3 < (t1428.length : Int) := of_decide_eq_true (by first | (with_reducible assumption) | assumption)
                 obtain ⟨ad1434, e1434, hx1434_0, hx1434_1, hx1434_2⟩ := at_T86 (Kd.R_reads' HO_15.out).2.2 x19_3 p1434 q1434
                 cases e1434
                 replace p1434 := eq_true p1434
                 replace q1434 := eq_true q1434
                 have p1436 : 0 ≤ (x19_3 : Int) := of_decide_eq_true (by first | (with_reducible assumption) | assumption)
                 have q1436 : x19_3 < (t1428.length : Int) := of_decide_eq_true (by first | (with_reducible assumption) | assumption)
                 obtain ⟨ad1436, e1436, hx1436_0, hx1436_1, hx1436_2⟩ := at_T86 (Kd.R_reads' HO_15.out).2.2 x19_3 p1436 q1436
                 obtain rfl : ad1434 = ad1436 := (by injection e1436)
                 replace p1436 := eq_true p1436
                 replace q1436 := eq_true q1436
                 have p1437 : 0 ≤ (x19_3 : Int) := of_decide_eq_true (by first | (with_reducible assumption) | assumption)
                 have q1437 : x19_3 < (t1428.length : Int) := of_decide_eq_true (by first | (with_reducible assumption) | assumption)
                 obtain ⟨ad1437, e1437, hx1437_0, hx1437_1, hx1437_2⟩ := at_T86 (Kd.R_reads' HO_15.out).2.2 x19_3 p1437 q1437
                 obtain rfl : ad1434 = ad1437 := (by injection e1437)
                 replace p1437 := eq_true p1437
                 replace q1437 := eq_true q1437
                 refine BelowW.region (by kernel_rfl) (by kernel_rfl) ?_
                 have hq0_ : wr.drew.cell? ⟨gb1426, 0, none⟩ = some (.int .i64 t1420) := (blk_cell BK1426.out 0).trans rfl
                 have hq1_ : wr.drew.cell? ⟨gb1426, 1, none⟩ = some (.int .i64 t1421) := (blk_cell BK1426.out 1).trans rfl
                 have hq2_ : wr.drew.cell? (ad1434.add ((x19_3).toNat * 3)) = some (.int .i64 ((rd_T86 t1428 x19_3).f0)) := hx1434_0
                 have hq3_ : wr.drew.cell? ⟨(ad1434.add ((x19_3).toNat * 3)).block, (ad1434.add ((x19_3).toNat * 3)).off + 1, none⟩ = some (.int .i64 ((rd_T86 t1428 x19_3).f1)) := hx1434_1
                 have hq4_ : wr.drew.cell? ⟨(ad1434.add ((x19_3).toNat * 3)).block, (ad1434.add ((x19_3).toNat * 3)).off + 2, none⟩ = some (.bool ((rd_T86 t1428 x19_3).f2)) := hx1434_2
                 have hq5_ : wr.drew.cell? (ad1434.add ((x19_3).toNat * 3)) = some (.int .i64 ((rd_T86 t1428 x19_3).f0)) := hx1436_0
                 have hq6_ : wr.drew.cell? ⟨(ad1434.add ((x19_3).toNat * 3)).block, (ad1434.add ((x19_3).toNat * 3)).off + 1, none⟩ = some (.int .i64 ((rd_T86 t1428 x19_3).f1)) := hx1436_1
                 have hq7_ : wr.drew.cell? ⟨(ad1434.add ((x19_3).toNat * 3)).block, (ad1434.add ((x19_3).toNat * 3)).off + 2, none⟩ = some (.bool ((rd_T86 t1428 x19_3).f2)) := hx1436_2
                 have hq8_ : wr.drew.cell? (ad1434.add ((x19_3).toNat * 3)) = some (.int .i64 ((rd_T86 t1428 x19_3).f0)) := hx1437_0
                 have hq9_ : wr.drew.cell? ⟨(ad1434.add ((x19_3).toNat * 3)).block, (ad1434.add ((x19_3).toNat * 3)).off + 1, none⟩ = some (.int .i64 ((rd_T86 t1428 x19_3).f1)) := hx1437_1
                 have hq10_ : wr.drew.cell? ⟨(ad1434.add ((x19_3).toNat * 3)).block, (ad1434.add ((x19_3).toNat * 3)).off + 2, none⟩ = some (.bool ((rd_T86 t1428 x19_3).f2)) := hx1437_2
                 generalize wr.drew = w70 at HO_15 BK1411 BK1426 BK1427 HB hx1434_0 hx1434_1 hx1434_2 hx1436_0 hx1436_1 hx1436_2 hx1437_0 hx1437_1 hx1437_2 hq0_ hq1_ hq2_ hq3_ hq4_ hq5_ hq6_ hq7_ hq8_ hq9_ hq10_ ⊢
                 replace hq0_ := BelowW.at hq0_
                 replace hq1_ := BelowW.at hq1_
                 replace hq2_ := BelowW.at hq2_
                 replace hq3_ := BelowW.at hq3_
                 replace hq4_ := BelowW.at hq4_
                 replace hq5_ := BelowW.at hq5_
                 replace hq6_ := BelowW.at hq6_
                 replace hq7_ := BelowW.at hq7_
                 replace hq8_ := BelowW.at hq8_
                 replace hq9_ := BelowW.at hq9_
                 replace hq10_ := BelowW.at hq10_
                 change wpQuiet _ _ _ _ (List.cons _ _) _
                 repeat (go_big_quiet_step (fail))
                 go_big_quiet_step ((go_at_call 52; (with_reducible refine (impl_BarLong.calls t1420 t1421 t1435 _ A62.out).mono ?_); exact fun _ _ h_ => ⟨h_.1, BelowW.step _ h_.2⟩))
                 repeat (go_big_quiet_step (fail))
                 go_big_quiet_step ((go_at_call 52; (with_reducible refine (impl_BarLong.calls t1420 t1421 t1438 _ A64.out).mono ?_); exact fun _ _ h_ => ⟨h_.1, BelowW.step _ h_.2⟩))
                 repeat (go_big_quiet_step (fail))
                 refine wpQuiet_nil ?_
                 intro w72 hb
                 try simp only [i64_w, i32_w]
                 clear hq0_ hq1_ hq2_ hq3_ hq4_ hq5_ hq6_ hq7_ hq8_ hq9_ hq10_
                 have n0_ := Aside0.mk (Kd.R_below (by (with_reducible repeat (first | apply Kd.R_alloc | apply Kd.R_drewN | apply Kd.R_drew)); exact HO_15.out) hb)
                 have n1_ := Aside0.mk (blk_below (g := gb1411) (o := .cells #[.int .i64 t1408, .int .i64 t1409] 73 (0, 0)) (by (with_reducible repeat (first | refine blk_drewN ?_ _ | refine blk_drew ?_ | refine blk_alloc ?_ _)); exact BK1411.out) hb)
                 have n2_ := Aside0.mk (blk_below (g := gb1426) (o := .cells #[.int .i64 t1420, .int .i64 t1421] 73 (0, 0)) (by (with_reducible repeat (first | refine blk_drewN ?_ _ | refine blk_drew ?_ | refine blk_alloc ?_ _)); exact BK1426.out) hb)
                 have n3_ := Aside0.mk (blk_below (g := gb1427) (o := .cells #[.int .i64 t1422, .int .i64 t1423, .int .i64 t1424, .int .i64 t1425] 26 (0, 0)) (by (with_reducible repeat (first | refine blk_drewN ?_ _ | refine blk_drew ?_ | refine blk_alloc ?_ _)); exact BK1427.out) hb)
                 have n4_ := Aside0.mk (below_step (by repeat (first | (with_reducible first | exact HB.out | apply below_alloc | apply pw_below_drewN | apply below_drew1 | refine below_set ?_ GE1411.out | refine below_set ?_ GE1426.out | refine below_set ?_ GE1427.out) | exact HB.out)) hb)
                 clear HO_15
                 clear BK1411
                 clear BK1426
                 clear BK1427
                 clear HB
                 have HO_15 := n0_
                 have BK1411 := n1_
                 have BK1426 := n2_
                 have BK1427 := n3_
                 have HB := n4_
                 clear n0_ n1_ n2_ n3_ n4_
                 (try clear hb)
                 (try clear hb2)
                 (try clear hk)
                 (try clear hi)
                 try go_wp2
                 go_ret
                 exact ⟨by first | rfl | (simp [errW_none, errW_some] <;> rfl) | (simp [*, errW_none, errW_some] <;> rfl), by repeat (first | (with_reducible first | exact HB.out | apply below_alloc | apply pw_below_drewN | apply below_drew1 | refine below_set ?_ GE1411.out | refine below_set ?_ GE1426.out | refine below_set ?_ GE1427.out) | exact HB.out)⟩
             ·
              rw [if_neg c61] at H
              exact absurd H (by simp)
            ·
             rw [if_neg c60] at H
             have c60b0 : decide (x19_3 < (t1428.length : Int)) = false := decide_eq_false c60
             clear c60
             have H' := Aside0.mk H
             clear H
             go_wp2
             go_meet
             case rel => exact ⟨_, H', ⟨by have := HJ7.out; have := HJ48.out; have := HK3.out; first | omega | exact Nat.le_refl _⟩, ⟨by (with_reducible repeat (first | refine blk_drewN ?_ _ | refine blk_drew ?_ | refine blk_alloc ?_ _)); exact BK1411.out⟩, ⟨by (with_reducible repeat (first | refine blk_drewN ?_ _ | refine blk_drew ?_ | refine blk_alloc ?_ _)); exact BK1426.out⟩, ⟨by (with_reducible repeat (first | refine blk_drewN ?_ _ | refine blk_drew ?_ | refine blk_alloc ?_ _)); exact BK1427.out⟩, ⟨by repeat (first | (with_reducible first | exact HB.out | apply below_alloc | apply pw_below_drewN | apply below_drew1 | refine below_set ?_ GE1411.out | refine below_set ?_ GE1426.out | refine below_set ?_ GE1427.out) | exact HB.out)⟩⟩
      ·
       rw [if_neg c47] at H
       have c47b0 : decide (0 < (t1428.length : Int)) = false := decide_eq_false c47
       have c47b1 : decide (0 < t1428.length) = false := decide_eq_false (by omega)
       clear c47
       (first | rw [c47b0] | (simp only [i64_w, i32_w]; rw [c47b0]) | skip)
       have H' := Aside0.mk H
       clear H
       go_upto_region 15 with (fail)
       any_goals (exfalso; have hz_ := of_decide_eq_false c47b1; omega)
       go_meet
       case rel => exact ⟨_, H', ⟨by have := HJ7.out; first | omega | exact Nat.le_refl _⟩, ⟨by (with_reducible repeat (first | refine blk_drewN ?_ _ | refine blk_drew ?_ | refine blk_alloc ?_ _)); exact BK1411.out⟩, ⟨by (with_reducible repeat (first | refine blk_drewN ?_ _ | refine blk_drew ?_ | refine blk_alloc ?_ _)); exact BK1426.out⟩, ⟨by (with_reducible repeat (first | refine blk_drewN ?_ _ | refine blk_drew ?_ | refine blk_alloc ?_ _)); exact BK1427.out⟩, ⟨by repeat (first | (with_reducible first | exact HB.out | apply below_alloc | apply pw_below_drewN | apply below_drew1 | refine below_set ?_ GE1411.out | refine below_set ?_ GE1426.out | refine below_set ?_ GE1427.out) | exact HB.out)⟩⟩
     case rest =>
      clear HC36
      try clear p1
      try clear q1
      try clear hx1
      try clear p2
      try clear c4
      try clear c5
      try clear c6
      try clear p6
      try clear p14
      try clear q14
      try clear hx14
      try clear c47
      try clear c47b0
      try clear c47b1
      try clear c52
      try clear c60
      try clear c60b0
      try clear c61
      try clear p64
      try clear c66
      try clear c66b0
      try clear c66b1
      try clear hx1434_0
      try clear hx1434_1
      try clear hx1434_2
      try clear hx1436_0
      try clear hx1436_1
      try clear hx1436_2
      try clear hx1437_0
      try clear hx1437_1
      try clear hx1437_2
      try clear p1434
      try clear p1436
      try clear p1437
      try clear q1434
      try clear q1436
      try clear q1437
      obtain ⟨kq, HA, HJ35, BK1411, BK1426, BK1427, HB⟩ := hcut
      cases kq with
      | zero => exact absurd HA.out (by simp [laws_FnBars.j3])
      | succ kj35 =>
       have H := HA.out
       clear HA
       simp only [laws_FnBars.j3] at H
       replace H := Option.bind_eq_some_iff.mp H
       obtain ⟨⟨t1439, t1440, t1441⟩, A730, H⟩ := H
       try dsimp only at H
       have A73 := Aside0.mk A730
       clear A730
       replace H := Option.bind_eq_some_iff.mp H
       obtain ⟨t1445, A740, H⟩ := H
       try dsimp only at H
       have A74 := Aside0.mk A740
       clear A740
       replace H := Option.bind_eq_some_iff.mp H
       obtain ⟨t1446, A750, H⟩ := H
       try dsimp only at H
       have A75 := Aside0.mk A750
       clear A750
       replace H := Option.bind_eq_some_iff.mp H
       obtain ⟨t1447, A760, H⟩ := H
       try dsimp only at H
       have A76 := Aside0.mk A760
       clear A760
       by_cases c77 : (wrap64 (t1445 * t1446)) ≥ t1447
       ·
        rw [if_pos c77] at H
        have c77b0 : decide (t1447 ≤ (wrap64 (t1445 * t1446))) = true := decide_eq_true c77
        clear c77
        obtain rfl := Option.some.inj H
        go_wp2_with (first | ((with_reducible refine gate_callee (f := 53) rfl ?_); refine goesL_ (some 136) rfl rfl Try.func53 (by kernel_rfl) rfl #[.slice A0 l0.length c0] rfl (by (try simp only [List.map_toArray, List.map_cons, List.map_nil]); first | done | rfl | (simp only [List.length_drop, List.length_take]; rfl)) ?_; (with_reducible refine (spec_DrawCountBars.calls kj35 _ _ l0 t1439 t1440 t1441 _ ?side1 ?side2 A73.out).mono ?_); (case side1 => repeat (first | exact (Kd.C_below HR0.out HB.out) | (with_reducible refine Kd.C_alloc ?_ _) | (with_reducible refine Kd.C_drewN ?_ _) | (with_reducible refine Kd.C_drew ?_))); (case side2 => exact HC0.out); rintro e w78 ⟨v1442, rfl, ho0, hb⟩; refine ⟨_, rfl, ?_⟩; have n0_ := Aside0.mk (Kd.R_lower (Kd.R_newB ho0 (g := gb1427) (o := .cells #[.int .i64 t1422, .int .i64 t1423, .int .i64 t1424, .int .i64 t1425] 26 (0, 0)) (by (with_reducible repeat (first | refine blk_drewN ?_ _ | refine blk_drew ?_ | refine blk_alloc ?_ _)); exact BK1427.out)) (below_size (by repeat (first | (with_reducible first | exact HB.out | apply below_alloc | apply pw_below_drewN | apply below_drew1 | refine below_set ?_ GE1411.out | refine below_set ?_ GE1426.out | refine below_set ?_ GE1427.out) | exact HB.out)))); have n1_ := Aside0.mk (blk_below (g := gb1411) (o := .cells #[.int .i64 t1408, .int .i64 t1409] 73 (0, 0)) (by (with_reducible repeat (first | refine blk_drewN ?_ _ | refine blk_drew ?_ | refine blk_alloc ?_ _)); exact BK1411.out) hb); have n2_ := Aside0.mk (blk_below (g := gb1426) (o := .cells #[.int .i64 t1420, .int .i64 t1421] 73 (0, 0)) (by (with_reducible repeat (first | refine blk_drewN ?_ _ | refine blk_drew ?_ | refine blk_alloc ?_ _)); exact BK1426.out) hb); have n3_ := Aside0.mk (blk_below (g := gb1427) (o := .cells #[.int .i64 t1422, .int .i64 t1423, .int .i64 t1424, .int .i64 t1425] 26 (0, 0)) (by (with_reducible repeat (first | refine blk_drewN ?_ _ | refine blk_drew ?_ | refine blk_alloc ?_ _)); exact BK1427.out) hb); have n4_ := Aside0.mk (below_step (by repeat (first | (with_reducible first | exact HB.out | apply below_alloc | apply pw_below_drewN | apply below_drew1 | refine below_set ?_ GE1411.out | refine below_set ?_ GE1426.out | refine below_set ?_ GE1427.out) | exact HB.out)) hb); clear BK1411; clear BK1426; clear BK1427; clear HB; have HO1443 := n0_; have BK1411 := n1_; have BK1426 := n2_; have BK1427 := n3_; have HB := n4_; clear n0_ n1_ n2_ n3_ n4_; (try clear hb); (try clear hb2); (try clear hk); (try clear hi); (try clear ho0)) | ((with_reducible refine gate_dst (N := 20) rfl ?_); refine box_event ?hg (N := 20) ?hd (cs := #[.int .i64 0, .int .i64 0]) (t := 73) ?hr ?_; (case hd => rfl); (case hg => rfl); (case hr => first | (go_simp; done) | (go_simp; rfl)); intro gb1444 hg w79 hbox hb; have n0_ := Aside0.mk (Kd.R_below (by (with_reducible repeat (first | apply Kd.R_alloc | apply Kd.R_drewN | apply Kd.R_drew)); exact HO1443.out) hb); have n1_ := Aside0.mk (blk_below (g := gb1411) (o := .cells #[.int .i64 t1408, .int .i64 t1409] 73 (0, 0)) (by (with_reducible repeat (first | refine blk_drewN ?_ _ | refine blk_drew ?_ | refine blk_alloc ?_ _)); exact BK1411.out) hb); have n2_ := Aside0.mk (blk_below (g := gb1426) (o := .cells #[.int .i64 t1420, .int .i64 t1421] 73 (0, 0)) (by (with_reducible repeat (first | refine blk_drewN ?_ _ | refine blk_drew ?_ | refine blk_alloc ?_ _)); exact BK1426.out) hb); have n3_ := Aside0.mk (blk_below (g := gb1427) (o := .cells #[.int .i64 t1422, .int .i64 t1423, .int .i64 t1424, .int .i64 t1425] 26 (0, 0)) (by (with_reducible repeat (first | refine blk_drewN ?_ _ | refine blk_drew ?_ | refine blk_alloc ?_ _)); exact BK1427.out) hb); have n4_ := Aside0.mk (below_step (by repeat (first | (with_reducible first | exact HB.out | apply below_alloc | apply pw_below_drewN | apply below_drew1 | refine below_set ?_ GE1411.out | refine below_set ?_ GE1426.out | refine below_set ?_ GE1427.out) | exact HB.out)) hb); have n5_ := Aside0.mk (hbox); have n6_ := Aside0.mk ((by rw [hg]; exact (below_size (by repeat (first | (with_reducible first | exact HB.out | apply below_alloc | apply pw_below_drewN | apply below_drew1 | refine below_set ?_ GE1411.out | refine below_set ?_ GE1426.out | refine below_set ?_ GE1427.out) | exact HB.out))) : w.heap.size ≤ gb1444)); have n7_ := Aside0.mk ((by rw [hg]; exact (below_size (by repeat (first | (with_reducible first | exact HB.out | apply below_alloc | apply pw_below_drewN | apply below_drew1 | refine below_set ?_ GE1411.out | refine below_set ?_ GE1426.out | refine below_set ?_ GE1427.out) | exact HB.out))) : w.heap.size ≤ gb1444)); have n8_ := Aside0.mk ((by rw [hg]; exact Nat.ne_of_lt (blk_lt (g := gb1411) (o := .cells #[.int .i64 t1408, .int .i64 t1409] 73 (0, 0)) (by (with_reducible repeat (first | refine blk_drewN ?_ _ | refine blk_drew ?_ | refine blk_alloc ?_ _)); exact BK1411.out)) : gb1411 ≠ gb1444)); have n9_ := Aside0.mk ((by rw [hg]; exact Nat.ne_of_gt (blk_lt (g := gb1411) (o := .cells #[.int .i64 t1408, .int .i64 t1409] 73 (0, 0)) (by (with_reducible repeat (first | refine blk_drewN ?_ _ | refine blk_drew ?_ | refine blk_alloc ?_ _)); exact BK1411.out)) : gb1444 ≠ gb1411)); have n10_ := Aside0.mk ((by rw [hg]; exact Nat.ne_of_lt (blk_lt (g := gb1426) (o := .cells #[.int .i64 t1420, .int .i64 t1421] 73 (0, 0)) (by (with_reducible repeat (first | refine blk_drewN ?_ _ | refine blk_drew ?_ | refine blk_alloc ?_ _)); exact BK1426.out)) : gb1426 ≠ gb1444)); have n11_ := Aside0.mk ((by rw [hg]; exact Nat.ne_of_gt (blk_lt (g := gb1426) (o := .cells #[.int .i64 t1420, .int .i64 t1421] 73 (0, 0)) (by (with_reducible repeat (first | refine blk_drewN ?_ _ | refine blk_drew ?_ | refine blk_alloc ?_ _)); exact BK1426.out)) : gb1444 ≠ gb1426)); have n12_ := Aside0.mk ((by rw [hg]; exact Nat.ne_of_lt (blk_lt (g := gb1427) (o := .cells #[.int .i64 t1422, .int .i64 t1423, .int .i64 t1424, .int .i64 t1425] 26 (0, 0)) (by (with_reducible repeat (first | refine blk_drewN ?_ _ | refine blk_drew ?_ | refine blk_alloc ?_ _)); exact BK1427.out)) : gb1427 ≠ gb1444)); have n13_ := Aside0.mk ((by rw [hg]; exact Nat.ne_of_gt (blk_lt (g := gb1427) (o := .cells #[.int .i64 t1422, .int .i64 t1423, .int .i64 t1424, .int .i64 t1425] 26 (0, 0)) (by (with_reducible repeat (first | refine blk_drewN ?_ _ | refine blk_drew ?_ | refine blk_alloc ?_ _)); exact BK1427.out)) : gb1444 ≠ gb1427)); clear HO1443; clear BK1411; clear BK1426; clear BK1427; clear HB; have HO1443 := n0_; have BK1411 := n1_; have BK1426 := n2_; have BK1427 := n3_; have HB := n4_; have BK1444 := n5_; have GW1444 := n6_; have GE1444 := n7_; have NB1411_1444 := n8_; have NB1444_1411 := n9_; have NB1426_1444 := n10_; have NB1444_1426 := n11_; have NB1427_1444 := n12_; have NB1444_1427 := n13_; clear n0_ n1_ n2_ n3_ n4_ n5_ n6_ n7_ n8_ n9_ n10_ n11_ n12_ n13_; clear hb hbox hg; have hnb80 := NB1444_1411.out; have hnc80 := NB1411_1444.out; have hnb81 := NB1444_1426.out; have hnc81 := NB1426_1444.out; have hnb82 := NB1444_1427.out; have hnc82 := NB1427_1444.out; have hcz83_0 : w79.cell? ⟨gb1444, 0, none⟩ = some (.int .i64 0) := (blk_cell BK1444.out 0).trans rfl; have hcz83_1 : w79.cell? ⟨gb1444, 1, none⟩ = some (.int .i64 0) := (blk_cell BK1444.out 1).trans rfl; have hfz83_0 := blk_frozen BK1444.out 0; have hfz83_1 := blk_frozen BK1444.out 1; obtain ⟨Ao84, co84, eo84⟩ := Kd.R_slice HO1443.out; subst eo84) | ((with_reducible refine gate_callee (f := 54) rfl ?_); refine goesL_ (some 141) rfl rfl Try.func54 (by kernel_rfl) rfl #[.agg #[.int .i64 t1439, .int .i64 t1440], .slice Ao84 t1441.length co84] rfl (by (try simp only [List.map_toArray, List.map_cons, List.map_nil]); first | done | rfl | (simp only [List.length_drop, List.length_take]; rfl)) ?_; (with_reducible refine (impl_CountBars.calls kj35 t1439 t1440 _ _ t1441 t1445 _ ?side1 ?side2 A74.out).mono ?_); (case side1 => refine (Kd.R_reads' (e := 26) (base := w.heap.size) (ok := fun k_ => (True ∧ k_ ≠ gb1427)) (n := t1441.length) (c := co84) ?_).2.2; exact (by (with_reducible repeat (first | apply Kd.R_alloc | apply Kd.R_drewN | apply Kd.R_drew)); exact (Kd.R_mono (Kd.R_far (p := ⟨gb1444, 1, none⟩) (Kd.R_far (p := ⟨gb1444, 0, none⟩) (Kd.R_types HO1443.out BK1444.out (by decide)) (fun _ hk => hk.2) (.int .i64 t1439)) (fun _ hk => hk.2) (.int .i64 t1440)) (fun _ h_ => h_.1)))); (case side2 => exact (Kd.R_reads' HO1443.out).2.1); rintro e w85 ⟨rfl, hb⟩; refine ⟨_, rfl, ?_⟩; have n0_ := Aside0.mk (Kd.R_below (by (with_reducible repeat (first | apply Kd.R_alloc | apply Kd.R_drewN | apply Kd.R_drew)); exact (Kd.R_mono (Kd.R_far (p := ⟨gb1444, 1, none⟩) (Kd.R_far (p := ⟨gb1444, 0, none⟩) (Kd.R_types HO1443.out BK1444.out (by decide)) (fun _ hk => hk.2) (.int .i64 t1439)) (fun _ hk => hk.2) (.int .i64 t1440)) (fun _ h_ => h_.1))) hb); have n1_ := Aside0.mk (blk_below (g := gb1411) (o := .cells #[.int .i64 t1408, .int .i64 t1409] 73 (0, 0)) (by (with_reducible repeat (first | refine blk_drewN ?_ _ | refine blk_drew ?_ | refine blk_alloc ?_ _)); refine blk_far ?_ NB1411_1444.out _; (with_reducible repeat (first | refine blk_drewN ?_ _ | refine blk_drew ?_ | refine blk_alloc ?_ _)); refine blk_far ?_ NB1411_1444.out _; (with_reducible repeat (first | refine blk_drewN ?_ _ | refine blk_drew ?_ | refine blk_alloc ?_ _)); exact BK1411.out) hb); have n2_ := Aside0.mk (blk_below (g := gb1426) (o := .cells #[.int .i64 t1420, .int .i64 t1421] 73 (0, 0)) (by (with_reducible repeat (first | refine blk_drewN ?_ _ | refine blk_drew ?_ | refine blk_alloc ?_ _)); refine blk_far ?_ NB1426_1444.out _; (with_reducible repeat (first | refine blk_drewN ?_ _ | refine blk_drew ?_ | refine blk_alloc ?_ _)); refine blk_far ?_ NB1426_1444.out _; (with_reducible repeat (first | refine blk_drewN ?_ _ | refine blk_drew ?_ | refine blk_alloc ?_ _)); exact BK1426.out) hb); have n3_ := Aside0.mk (blk_below (g := gb1427) (o := .cells #[.int .i64 t1422, .int .i64 t1423, .int .i64 t1424, .int .i64 t1425] 26 (0, 0)) (by (with_reducible repeat (first | refine blk_drewN ?_ _ | refine blk_drew ?_ | refine blk_alloc ?_ _)); refine blk_far ?_ NB1427_1444.out _; (with_reducible repeat (first | refine blk_drewN ?_ _ | refine blk_drew ?_ | refine blk_alloc ?_ _)); refine blk_far ?_ NB1427_1444.out _; (with_reducible repeat (first | refine blk_drewN ?_ _ | refine blk_drew ?_ | refine blk_alloc ?_ _)); exact BK1427.out) hb); have n4_ := Aside0.mk (blk_below (g := gb1444) (o := .cells #[.int .i64 t1439, .int .i64 t1440] 73 (0, 0)) (by (with_reducible repeat (first | refine blk_drewN ?_ _ | refine blk_drew ?_ | refine blk_alloc ?_ _)); refine blk_put (cs := #[.int .i64 t1439, .int .i64 0]) ?_ 1 _ rfl; (with_reducible repeat (first | refine blk_drewN ?_ _ | refine blk_drew ?_ | refine blk_alloc ?_ _)); refine blk_put (cs := #[.int .i64 0, .int .i64 0]) ?_ 0 _ rfl; (with_reducible repeat (first | refine blk_drewN ?_ _ | refine blk_drew ?_ | refine blk_alloc ?_ _)); exact BK1444.out) hb); have n5_ := Aside0.mk (below_step (by repeat (first | (with_reducible first | exact HB.out | apply below_alloc | apply pw_below_drewN | apply below_drew1 | refine below_set ?_ GE1411.out | refine below_set ?_ GE1426.out | refine below_set ?_ GE1427.out | refine below_set ?_ GE1444.out) | exact HB.out)) hb); clear HO1443; clear BK1411; clear BK1426; clear BK1427; clear BK1444; clear HB; have HO1443 := n0_; have BK1411 := n1_; have BK1426 := n2_; have BK1427 := n3_; have BK1444 := n4_; have HB := n5_; clear n0_ n1_ n2_ n3_ n4_ n5_; (try clear hb); (try clear hb2); (try clear hk); (try clear hi); have hcz86_0 : w85.cell? ⟨gb1444, 0, none⟩ = some (.int .i64 t1439) := (blk_cell BK1444.out 0).trans rfl; have hcz86_1 : w85.cell? ⟨gb1444, 1, none⟩ = some (.int .i64 t1440) := (blk_cell BK1444.out 1).trans rfl; have hfz86_0 := blk_frozen BK1444.out 0; have hfz86_1 := blk_frozen BK1444.out 1) | ((with_reducible refine gate_callee (f := 52) rfl ?_); refine goesL_ (some 144) rfl rfl Try.func52 (by kernel_rfl) rfl #[.agg #[.int .i64 t1439, .int .i64 t1440]] rfl (by (try simp only [List.map_toArray, List.map_cons, List.map_nil]); first | done | rfl | (simp only [List.length_drop, List.length_take]; rfl)) ?_; (with_reducible refine (impl_BarLong.calls t1439 t1440 t1446 _ A75.out).mono ?_); rintro e w87 ⟨rfl, hb⟩; refine ⟨_, rfl, ?_⟩; have n0_ := Aside0.mk (Kd.R_below (by (with_reducible repeat (first | apply Kd.R_alloc | apply Kd.R_drewN | apply Kd.R_drew)); exact HO1443.out) hb); have n1_ := Aside0.mk (blk_below (g := gb1411) (o := .cells #[.int .i64 t1408, .int .i64 t1409] 73 (0, 0)) (by (with_reducible repeat (first | refine blk_drewN ?_ _ | refine blk_drew ?_ | refine blk_alloc ?_ _)); exact BK1411.out) hb); have n2_ := Aside0.mk (blk_below (g := gb1426) (o := .cells #[.int .i64 t1420, .int .i64 t1421] 73 (0, 0)) (by (with_reducible repeat (first | refine blk_drewN ?_ _ | refine blk_drew ?_ | refine blk_alloc ?_ _)); exact BK1426.out) hb); have n3_ := Aside0.mk (blk_below (g := gb1427) (o := .cells #[.int .i64 t1422, .int .i64 t1423, .int .i64 t1424, .int .i64 t1425] 26 (0, 0)) (by (with_reducible repeat (first | refine blk_drewN ?_ _ | refine blk_drew ?_ | refine blk_alloc ?_ _)); exact BK1427.out) hb); have n4_ := Aside0.mk (blk_below (g := gb1444) (o := .cells #[.int .i64 t1439, .int .i64 t1440] 73 (0, 0)) (by (with_reducible repeat (first | refine blk_drewN ?_ _ | refine blk_drew ?_ | refine blk_alloc ?_ _)); exact BK1444.out) hb); have n5_ := Aside0.mk (below_step (by repeat (first | (with_reducible first | exact HB.out | apply below_alloc | apply pw_below_drewN | apply below_drew1 | refine below_set ?_ GE1411.out | refine below_set ?_ GE1426.out | refine below_set ?_ GE1427.out | refine below_set ?_ GE1444.out) | exact HB.out)) hb); clear HO1443; clear BK1411; clear BK1426; clear BK1427; clear BK1444; clear HB; have HO1443 := n0_; have BK1411 := n1_; have BK1426 := n2_; have BK1427 := n3_; have BK1444 := n4_; have HB := n5_; clear n0_ n1_ n2_ n3_ n4_ n5_; (try clear hb); (try clear hb2); (try clear hk); (try clear hi)) | ((with_reducible refine gate_callee (f := 16) rfl ?_); refine goesL_ (some 147) rfl rfl Try.func16 (by kernel_rfl) rfl #[.slice Ao84 t1441.length co84] rfl (by (try simp only [List.map_toArray, List.map_cons, List.map_nil]); first | done | rfl | (simp only [List.length_drop, List.length_take]; rfl)) ?_; (with_reducible refine (impl_EndOf.calls kj35 _ _ t1441 t1447 _ ?side1 ?side2 A76.out).mono ?_); (case side1 => repeat (first | exact (Kd.R_reads' HO1443.out).2.2 | (with_reducible refine Kd.C_alloc ?_ _) | (with_reducible refine Kd.C_drewN ?_ _) | (with_reducible refine Kd.C_drew ?_))); (case side2 => exact (Kd.R_reads' HO1443.out).2.1); rintro e w88 ⟨rfl, hb⟩; refine ⟨_, rfl, ?_⟩; have n0_ := Aside0.mk (Kd.R_below (by (with_reducible repeat (first | apply Kd.R_alloc | apply Kd.R_drewN | apply Kd.R_drew)); exact HO1443.out) hb); have n1_ := Aside0.mk (blk_below (g := gb1411) (o := .cells #[.int .i64 t1408, .int .i64 t1409] 73 (0, 0)) (by (with_reducible repeat (first | refine blk_drewN ?_ _ | refine blk_drew ?_ | refine blk_alloc ?_ _)); exact BK1411.out) hb); have n2_ := Aside0.mk (blk_below (g := gb1426) (o := .cells #[.int .i64 t1420, .int .i64 t1421] 73 (0, 0)) (by (with_reducible repeat (first | refine blk_drewN ?_ _ | refine blk_drew ?_ | refine blk_alloc ?_ _)); exact BK1426.out) hb); have n3_ := Aside0.mk (blk_below (g := gb1427) (o := .cells #[.int .i64 t1422, .int .i64 t1423, .int .i64 t1424, .int .i64 t1425] 26 (0, 0)) (by (with_reducible repeat (first | refine blk_drewN ?_ _ | refine blk_drew ?_ | refine blk_alloc ?_ _)); exact BK1427.out) hb); have n4_ := Aside0.mk (blk_below (g := gb1444) (o := .cells #[.int .i64 t1439, .int .i64 t1440] 73 (0, 0)) (by (with_reducible repeat (first | refine blk_drewN ?_ _ | refine blk_drew ?_ | refine blk_alloc ?_ _)); exact BK1444.out) hb); have n5_ := Aside0.mk (below_step (by repeat (first | (with_reducible first | exact HB.out | apply below_alloc | apply pw_below_drewN | apply below_drew1 | refine below_set ?_ GE1411.out | refine below_set ?_ GE1426.out | refine below_set ?_ GE1427.out | refine below_set ?_ GE1444.out) | exact HB.out)) hb); clear HO1443; clear BK1411; clear BK1426; clear BK1427; clear BK1444; clear HB; have HO1443 := n0_; have BK1411 := n1_; have BK1426 := n2_; have BK1427 := n3_; have BK1444 := n4_; have HB := n5_; clear n0_ n1_ n2_ n3_ n4_ n5_; (try clear hb); (try clear hb2); (try clear hk); (try clear hi)))
        go_ret
        exact ⟨by first | rfl | (simp [errW_none, errW_some] <;> rfl) | (simp [*, errW_none, errW_some] <;> rfl), by repeat (first | (with_reducible first | exact HB.out | apply below_alloc | apply pw_below_drewN | apply below_drew1 | refine below_set ?_ GE1411.out | refine below_set ?_ GE1426.out | refine below_set ?_ GE1427.out | refine below_set ?_ GE1444.out) | exact HB.out)⟩
       ·
        rw [if_neg c77] at H
        have c77b0 : decide (t1447 ≤ (wrap64 (t1445 * t1446))) = false := decide_eq_false c77
        clear c77
        replace H := Option.bind_eq_some_iff.mp H
        obtain ⟨t1448, A890, H⟩ := H
        try dsimp only at H
        have A89 := Aside0.mk A890
        clear A890
        obtain rfl := Option.some.inj H
        go_wp2_with (first | ((with_reducible refine gate_callee (f := 53) rfl ?_); refine goesL_ (some 136) rfl rfl Try.func53 (by kernel_rfl) rfl #[.slice A0 l0.length c0] rfl (by (try simp only [List.map_toArray, List.map_cons, List.map_nil]); first | done | rfl | (simp only [List.length_drop, List.length_take]; rfl)) ?_; (with_reducible refine (spec_DrawCountBars.calls kj35 _ _ l0 t1439 t1440 t1441 _ ?side1 ?side2 A73.out).mono ?_); (case side1 => repeat (first | exact (Kd.C_below HR0.out HB.out) | (with_reducible refine Kd.C_alloc ?_ _) | (with_reducible refine Kd.C_drewN ?_ _) | (with_reducible refine Kd.C_drew ?_))); (case side2 => exact HC0.out); rintro e w90 ⟨v1442, rfl, ho0, hb⟩; refine ⟨_, rfl, ?_⟩; have n0_ := Aside0.mk (Kd.R_lower (Kd.R_newB ho0 (g := gb1427) (o := .cells #[.int .i64 t1422, .int .i64 t1423, .int .i64 t1424, .int .i64 t1425] 26 (0, 0)) (by (with_reducible repeat (first | refine blk_drewN ?_ _ | refine blk_drew ?_ | refine blk_alloc ?_ _)); exact BK1427.out)) (below_size (by repeat (first | (with_reducible first | exact HB.out | apply below_alloc | apply pw_below_drewN | apply below_drew1 | refine below_set ?_ GE1411.out | refine below_set ?_ GE1426.out | refine below_set ?_ GE1427.out) | exact HB.out)))); have n1_ := Aside0.mk (blk_below (g := gb1411) (o := .cells #[.int .i64 t1408, .int .i64 t1409] 73 (0, 0)) (by (with_reducible repeat (first | refine blk_drewN ?_ _ | refine blk_drew ?_ | refine blk_alloc ?_ _)); exact BK1411.out) hb); have n2_ := Aside0.mk (blk_below (g := gb1426) (o := .cells #[.int .i64 t1420, .int .i64 t1421] 73 (0, 0)) (by (with_reducible repeat (first | refine blk_drewN ?_ _ | refine blk_drew ?_ | refine blk_alloc ?_ _)); exact BK1426.out) hb); have n3_ := Aside0.mk (blk_below (g := gb1427) (o := .cells #[.int .i64 t1422, .int .i64 t1423, .int .i64 t1424, .int .i64 t1425] 26 (0, 0)) (by (with_reducible repeat (first | refine blk_drewN ?_ _ | refine blk_drew ?_ | refine blk_alloc ?_ _)); exact BK1427.out) hb); have n4_ := Aside0.mk (below_step (by repeat (first | (with_reducible first | exact HB.out | apply below_alloc | apply pw_below_drewN | apply below_drew1 | refine below_set ?_ GE1411.out | refine below_set ?_ GE1426.out | refine below_set ?_ GE1427.out) | exact HB.out)) hb); clear BK1411; clear BK1426; clear BK1427; clear HB; have HO1443 := n0_; have BK1411 := n1_; have BK1426 := n2_; have BK1427 := n3_; have HB := n4_; clear n0_ n1_ n2_ n3_ n4_; (try clear hb); (try clear hb2); (try clear hk); (try clear hi); (try clear ho0)) | ((with_reducible refine gate_dst (N := 20) rfl ?_); refine box_event ?hg (N := 20) ?hd (cs := #[.int .i64 0, .int .i64 0]) (t := 73) ?hr ?_; (case hd => rfl); (case hg => rfl); (case hr => first | (go_simp; done) | (go_simp; rfl)); intro gb1444 hg w91 hbox hb; have n0_ := Aside0.mk (Kd.R_below (by (with_reducible repeat (first | apply Kd.R_alloc | apply Kd.R_drewN | apply Kd.R_drew)); exact HO1443.out) hb); have n1_ := Aside0.mk (blk_below (g := gb1411) (o := .cells #[.int .i64 t1408, .int .i64 t1409] 73 (0, 0)) (by (with_reducible repeat (first | refine blk_drewN ?_ _ | refine blk_drew ?_ | refine blk_alloc ?_ _)); exact BK1411.out) hb); have n2_ := Aside0.mk (blk_below (g := gb1426) (o := .cells #[.int .i64 t1420, .int .i64 t1421] 73 (0, 0)) (by (with_reducible repeat (first | refine blk_drewN ?_ _ | refine blk_drew ?_ | refine blk_alloc ?_ _)); exact BK1426.out) hb); have n3_ := Aside0.mk (blk_below (g := gb1427) (o := .cells #[.int .i64 t1422, .int .i64 t1423, .int .i64 t1424, .int .i64 t1425] 26 (0, 0)) (by (with_reducible repeat (first | refine blk_drewN ?_ _ | refine blk_drew ?_ | refine blk_alloc ?_ _)); exact BK1427.out) hb); have n4_ := Aside0.mk (below_step (by repeat (first | (with_reducible first | exact HB.out | apply below_alloc | apply pw_below_drewN | apply below_drew1 | refine below_set ?_ GE1411.out | refine below_set ?_ GE1426.out | refine below_set ?_ GE1427.out) | exact HB.out)) hb); have n5_ := Aside0.mk (hbox); have n6_ := Aside0.mk ((by rw [hg]; exact (below_size (by repeat (first | (with_reducible first | exact HB.out | apply below_alloc | apply pw_below_drewN | apply below_drew1 | refine below_set ?_ GE1411.out | refine below_set ?_ GE1426.out | refine below_set ?_ GE1427.out) | exact HB.out))) : w.heap.size ≤ gb1444)); have n7_ := Aside0.mk ((by rw [hg]; exact (below_size (by repeat (first | (with_reducible first | exact HB.out | apply below_alloc | apply pw_below_drewN | apply below_drew1 | refine below_set ?_ GE1411.out | refine below_set ?_ GE1426.out | refine below_set ?_ GE1427.out) | exact HB.out))) : w.heap.size ≤ gb1444)); have n8_ := Aside0.mk ((by rw [hg]; exact Nat.ne_of_lt (blk_lt (g := gb1411) (o := .cells #[.int .i64 t1408, .int .i64 t1409] 73 (0, 0)) (by (with_reducible repeat (first | refine blk_drewN ?_ _ | refine blk_drew ?_ | refine blk_alloc ?_ _)); exact BK1411.out)) : gb1411 ≠ gb1444)); have n9_ := Aside0.mk ((by rw [hg]; exact Nat.ne_of_gt (blk_lt (g := gb1411) (o := .cells #[.int .i64 t1408, .int .i64 t1409] 73 (0, 0)) (by (with_reducible repeat (first | refine blk_drewN ?_ _ | refine blk_drew ?_ | refine blk_alloc ?_ _)); exact BK1411.out)) : gb1444 ≠ gb1411)); have n10_ := Aside0.mk ((by rw [hg]; exact Nat.ne_of_lt (blk_lt (g := gb1426) (o := .cells #[.int .i64 t1420, .int .i64 t1421] 73 (0, 0)) (by (with_reducible repeat (first | refine blk_drewN ?_ _ | refine blk_drew ?_ | refine blk_alloc ?_ _)); exact BK1426.out)) : gb1426 ≠ gb1444)); have n11_ := Aside0.mk ((by rw [hg]; exact Nat.ne_of_gt (blk_lt (g := gb1426) (o := .cells #[.int .i64 t1420, .int .i64 t1421] 73 (0, 0)) (by (with_reducible repeat (first | refine blk_drewN ?_ _ | refine blk_drew ?_ | refine blk_alloc ?_ _)); exact BK1426.out)) : gb1444 ≠ gb1426)); have n12_ := Aside0.mk ((by rw [hg]; exact Nat.ne_of_lt (blk_lt (g := gb1427) (o := .cells #[.int .i64 t1422, .int .i64 t1423, .int .i64 t1424, .int .i64 t1425] 26 (0, 0)) (by (with_reducible repeat (first | refine blk_drewN ?_ _ | refine blk_drew ?_ | refine blk_alloc ?_ _)); exact BK1427.out)) : gb1427 ≠ gb1444)); have n13_ := Aside0.mk ((by rw [hg]; exact Nat.ne_of_gt (blk_lt (g := gb1427) (o := .cells #[.int .i64 t1422, .int .i64 t1423, .int .i64 t1424, .int .i64 t1425] 26 (0, 0)) (by (with_reducible repeat (first | refine blk_drewN ?_ _ | refine blk_drew ?_ | refine blk_alloc ?_ _)); exact BK1427.out)) : gb1444 ≠ gb1427)); clear HO1443; clear BK1411; clear BK1426; clear BK1427; clear HB; have HO1443 := n0_; have BK1411 := n1_; have BK1426 := n2_; have BK1427 := n3_; have HB := n4_; have BK1444 := n5_; have GW1444 := n6_; have GE1444 := n7_; have NB1411_1444 := n8_; have NB1444_1411 := n9_; have NB1426_1444 := n10_; have NB1444_1426 := n11_; have NB1427_1444 := n12_; have NB1444_1427 := n13_; clear n0_ n1_ n2_ n3_ n4_ n5_ n6_ n7_ n8_ n9_ n10_ n11_ n12_ n13_; clear hb hbox hg; have hnb92 := NB1444_1411.out; have hnc92 := NB1411_1444.out; have hnb93 := NB1444_1426.out; have hnc93 := NB1426_1444.out; have hnb94 := NB1444_1427.out; have hnc94 := NB1427_1444.out; have hcz95_0 : w91.cell? ⟨gb1444, 0, none⟩ = some (.int .i64 0) := (blk_cell BK1444.out 0).trans rfl; have hcz95_1 : w91.cell? ⟨gb1444, 1, none⟩ = some (.int .i64 0) := (blk_cell BK1444.out 1).trans rfl; have hfz95_0 := blk_frozen BK1444.out 0; have hfz95_1 := blk_frozen BK1444.out 1; obtain ⟨Ao96, co96, eo96⟩ := Kd.R_slice HO1443.out; subst eo96) | ((with_reducible refine gate_callee (f := 54) rfl ?_); refine goesL_ (some 141) rfl rfl Try.func54 (by kernel_rfl) rfl #[.agg #[.int .i64 t1439, .int .i64 t1440], .slice Ao96 t1441.length co96] rfl (by (try simp only [List.map_toArray, List.map_cons, List.map_nil]); first | done | rfl | (simp only [List.length_drop, List.length_take]; rfl)) ?_; (with_reducible refine (impl_CountBars.calls kj35 t1439 t1440 _ _ t1441 t1445 _ ?side1 ?side2 A74.out).mono ?_); (case side1 => refine (Kd.R_reads' (e := 26) (base := w.heap.size) (ok := fun k_ => (True ∧ k_ ≠ gb1427)) (n := t1441.length) (c := co96) ?_).2.2; exact (by (with_reducible repeat (first | apply Kd.R_alloc | apply Kd.R_drewN | apply Kd.R_drew)); exact (Kd.R_mono (Kd.R_far (p := ⟨gb1444, 1, none⟩) (Kd.R_far (p := ⟨gb1444, 0, none⟩) (Kd.R_types HO1443.out BK1444.out (by decide)) (fun _ hk => hk.2) (.int .i64 t1439)) (fun _ hk => hk.2) (.int .i64 t1440)) (fun _ h_ => h_.1)))); (case side2 => exact (Kd.R_reads' HO1443.out).2.1); rintro e w97 ⟨rfl, hb⟩; refine ⟨_, rfl, ?_⟩; have n0_ := Aside0.mk (Kd.R_below (by (with_reducible repeat (first | apply Kd.R_alloc | apply Kd.R_drewN | apply Kd.R_drew)); exact (Kd.R_mono (Kd.R_far (p := ⟨gb1444, 1, none⟩) (Kd.R_far (p := ⟨gb1444, 0, none⟩) (Kd.R_types HO1443.out BK1444.out (by decide)) (fun _ hk => hk.2) (.int .i64 t1439)) (fun _ hk => hk.2) (.int .i64 t1440)) (fun _ h_ => h_.1))) hb); have n1_ := Aside0.mk (blk_below (g := gb1411) (o := .cells #[.int .i64 t1408, .int .i64 t1409] 73 (0, 0)) (by (with_reducible repeat (first | refine blk_drewN ?_ _ | refine blk_drew ?_ | refine blk_alloc ?_ _)); refine blk_far ?_ NB1411_1444.out _; (with_reducible repeat (first | refine blk_drewN ?_ _ | refine blk_drew ?_ | refine blk_alloc ?_ _)); refine blk_far ?_ NB1411_1444.out _; (with_reducible repeat (first | refine blk_drewN ?_ _ | refine blk_drew ?_ | refine blk_alloc ?_ _)); exact BK1411.out) hb); have n2_ := Aside0.mk (blk_below (g := gb1426) (o := .cells #[.int .i64 t1420, .int .i64 t1421] 73 (0, 0)) (by (with_reducible repeat (first | refine blk_drewN ?_ _ | refine blk_drew ?_ | refine blk_alloc ?_ _)); refine blk_far ?_ NB1426_1444.out _; (with_reducible repeat (first | refine blk_drewN ?_ _ | refine blk_drew ?_ | refine blk_alloc ?_ _)); refine blk_far ?_ NB1426_1444.out _; (with_reducible repeat (first | refine blk_drewN ?_ _ | refine blk_drew ?_ | refine blk_alloc ?_ _)); exact BK1426.out) hb); have n3_ := Aside0.mk (blk_below (g := gb1427) (o := .cells #[.int .i64 t1422, .int .i64 t1423, .int .i64 t1424, .int .i64 t1425] 26 (0, 0)) (by (with_reducible repeat (first | refine blk_drewN ?_ _ | refine blk_drew ?_ | refine blk_alloc ?_ _)); refine blk_far ?_ NB1427_1444.out _; (with_reducible repeat (first | refine blk_drewN ?_ _ | refine blk_drew ?_ | refine blk_alloc ?_ _)); refine blk_far ?_ NB1427_1444.out _; (with_reducible repeat (first | refine blk_drewN ?_ _ | refine blk_drew ?_ | refine blk_alloc ?_ _)); exact BK1427.out) hb); have n4_ := Aside0.mk (blk_below (g := gb1444) (o := .cells #[.int .i64 t1439, .int .i64 t1440] 73 (0, 0)) (by (with_reducible repeat (first | refine blk_drewN ?_ _ | refine blk_drew ?_ | refine blk_alloc ?_ _)); refine blk_put (cs := #[.int .i64 t1439, .int .i64 0]) ?_ 1 _ rfl; (with_reducible repeat (first | refine blk_drewN ?_ _ | refine blk_drew ?_ | refine blk_alloc ?_ _)); refine blk_put (cs := #[.int .i64 0, .int .i64 0]) ?_ 0 _ rfl; (with_reducible repeat (first | refine blk_drewN ?_ _ | refine blk_drew ?_ | refine blk_alloc ?_ _)); exact BK1444.out) hb); have n5_ := Aside0.mk (below_step (by repeat (first | (with_reducible first | exact HB.out | apply below_alloc | apply pw_below_drewN | apply below_drew1 | refine below_set ?_ GE1411.out | refine below_set ?_ GE1426.out | refine below_set ?_ GE1427.out | refine below_set ?_ GE1444.out) | exact HB.out)) hb); clear HO1443; clear BK1411; clear BK1426; clear BK1427; clear BK1444; clear HB; have HO1443 := n0_; have BK1411 := n1_; have BK1426 := n2_; have BK1427 := n3_; have BK1444 := n4_; have HB := n5_; clear n0_ n1_ n2_ n3_ n4_ n5_; (try clear hb); (try clear hb2); (try clear hk); (try clear hi); have hcz98_0 : w97.cell? ⟨gb1444, 0, none⟩ = some (.int .i64 t1439) := (blk_cell BK1444.out 0).trans rfl; have hcz98_1 : w97.cell? ⟨gb1444, 1, none⟩ = some (.int .i64 t1440) := (blk_cell BK1444.out 1).trans rfl; have hfz98_0 := blk_frozen BK1444.out 0; have hfz98_1 := blk_frozen BK1444.out 1) | ((with_reducible refine gate_callee (f := 52) rfl ?_); refine goesL_ (some 144) rfl rfl Try.func52 (by kernel_rfl) rfl #[.agg #[.int .i64 t1439, .int .i64 t1440]] rfl (by (try simp only [List.map_toArray, List.map_cons, List.map_nil]); first | done | rfl | (simp only [List.length_drop, List.length_take]; rfl)) ?_; (with_reducible refine (impl_BarLong.calls t1439 t1440 t1446 _ A75.out).mono ?_); rintro e w99 ⟨rfl, hb⟩; refine ⟨_, rfl, ?_⟩; have n0_ := Aside0.mk (Kd.R_below (by (with_reducible repeat (first | apply Kd.R_alloc | apply Kd.R_drewN | apply Kd.R_drew)); exact HO1443.out) hb); have n1_ := Aside0.mk (blk_below (g := gb1411) (o := .cells #[.int .i64 t1408, .int .i64 t1409] 73 (0, 0)) (by (with_reducible repeat (first | refine blk_drewN ?_ _ | refine blk_drew ?_ | refine blk_alloc ?_ _)); exact BK1411.out) hb); have n2_ := Aside0.mk (blk_below (g := gb1426) (o := .cells #[.int .i64 t1420, .int .i64 t1421] 73 (0, 0)) (by (with_reducible repeat (first | refine blk_drewN ?_ _ | refine blk_drew ?_ | refine blk_alloc ?_ _)); exact BK1426.out) hb); have n3_ := Aside0.mk (blk_below (g := gb1427) (o := .cells #[.int .i64 t1422, .int .i64 t1423, .int .i64 t1424, .int .i64 t1425] 26 (0, 0)) (by (with_reducible repeat (first | refine blk_drewN ?_ _ | refine blk_drew ?_ | refine blk_alloc ?_ _)); exact BK1427.out) hb); have n4_ := Aside0.mk (blk_below (g := gb1444) (o := .cells #[.int .i64 t1439, .int .i64 t1440] 73 (0, 0)) (by (with_reducible repeat (first | refine blk_drewN ?_ _ | refine blk_drew ?_ | refine blk_alloc ?_ _)); exact BK1444.out) hb); have n5_ := Aside0.mk (below_step (by repeat (first | (with_reducible first | exact HB.out | apply below_alloc | apply pw_below_drewN | apply below_drew1 | refine below_set ?_ GE1411.out | refine below_set ?_ GE1426.out | refine below_set ?_ GE1427.out | refine below_set ?_ GE1444.out) | exact HB.out)) hb); clear HO1443; clear BK1411; clear BK1426; clear BK1427; clear BK1444; clear HB; have HO1443 := n0_; have BK1411 := n1_; have BK1426 := n2_; have BK1427 := n3_; have BK1444 := n4_; have HB := n5_; clear n0_ n1_ n2_ n3_ n4_ n5_; (try clear hb); (try clear hb2); (try clear hk); (try clear hi)) | ((with_reducible refine gate_callee (f := 16) rfl ?_); refine goesL_ (some 147) rfl rfl Try.func16 (by kernel_rfl) rfl #[.slice Ao96 t1441.length co96] rfl (by (try simp only [List.map_toArray, List.map_cons, List.map_nil]); first | done | rfl | (simp only [List.length_drop, List.length_take]; rfl)) ?_; (with_reducible refine (impl_EndOf.calls kj35 _ _ t1441 t1447 _ ?side1 ?side2 A76.out).mono ?_); (case side1 => repeat (first | exact (Kd.R_reads' HO1443.out).2.2 | (with_reducible refine Kd.C_alloc ?_ _) | (with_reducible refine Kd.C_drewN ?_ _) | (with_reducible refine Kd.C_drew ?_))); (case side2 => exact (Kd.R_reads' HO1443.out).2.1); rintro e w100 ⟨rfl, hb⟩; refine ⟨_, rfl, ?_⟩; have n0_ := Aside0.mk (Kd.R_below (by (with_reducible repeat (first | apply Kd.R_alloc | apply Kd.R_drewN | apply Kd.R_drew)); exact HO1443.out) hb); have n1_ := Aside0.mk (blk_below (g := gb1411) (o := .cells #[.int .i64 t1408, .int .i64 t1409] 73 (0, 0)) (by (with_reducible repeat (first | refine blk_drewN ?_ _ | refine blk_drew ?_ | refine blk_alloc ?_ _)); exact BK1411.out) hb); have n2_ := Aside0.mk (blk_below (g := gb1426) (o := .cells #[.int .i64 t1420, .int .i64 t1421] 73 (0, 0)) (by (with_reducible repeat (first | refine blk_drewN ?_ _ | refine blk_drew ?_ | refine blk_alloc ?_ _)); exact BK1426.out) hb); have n3_ := Aside0.mk (blk_below (g := gb1427) (o := .cells #[.int .i64 t1422, .int .i64 t1423, .int .i64 t1424, .int .i64 t1425] 26 (0, 0)) (by (with_reducible repeat (first | refine blk_drewN ?_ _ | refine blk_drew ?_ | refine blk_alloc ?_ _)); exact BK1427.out) hb); have n4_ := Aside0.mk (blk_below (g := gb1444) (o := .cells #[.int .i64 t1439, .int .i64 t1440] 73 (0, 0)) (by (with_reducible repeat (first | refine blk_drewN ?_ _ | refine blk_drew ?_ | refine blk_alloc ?_ _)); exact BK1444.out) hb); have n5_ := Aside0.mk (below_step (by repeat (first | (with_reducible first | exact HB.out | apply below_alloc | apply pw_below_drewN | apply below_drew1 | refine below_set ?_ GE1411.out | refine below_set ?_ GE1426.out | refine below_set ?_ GE1427.out | refine below_set ?_ GE1444.out) | exact HB.out)) hb); clear HO1443; clear BK1411; clear BK1426; clear BK1427; clear BK1444; clear HB; have HO1443 := n0_; have BK1411 := n1_; have BK1426 := n2_; have BK1427 := n3_; have BK1444 := n4_; have HB := n5_; clear n0_ n1_ n2_ n3_ n4_ n5_; (try clear hb); (try clear hb2); (try clear hk); (try clear hi); have hcz101_0 : w100.cell? ⟨gb1444, 0, none⟩ = some (.int .i64 t1439) := (blk_cell BK1444.out 0).trans rfl; have hcz101_1 : w100.cell? ⟨gb1444, 1, none⟩ = some (.int .i64 t1440) := (blk_cell BK1444.out 1).trans rfl; have hfz101_0 := blk_frozen BK1444.out 0; have hfz101_1 := blk_frozen BK1444.out 1) | (go_at_call 55; (with_reducible refine (impl_IsMeter.calls t1439 t1440 t1448 _ A89.out).mono ?_); rintro e w102 ⟨rfl, hb⟩; have n0_ := Aside0.mk (Kd.R_below (by (with_reducible repeat (first | apply Kd.R_alloc | apply Kd.R_drewN | apply Kd.R_drew)); exact HO1443.out) hb); have n1_ := Aside0.mk (blk_below (g := gb1411) (o := .cells #[.int .i64 t1408, .int .i64 t1409] 73 (0, 0)) (by (with_reducible repeat (first | refine blk_drewN ?_ _ | refine blk_drew ?_ | refine blk_alloc ?_ _)); exact BK1411.out) hb); have n2_ := Aside0.mk (blk_below (g := gb1426) (o := .cells #[.int .i64 t1420, .int .i64 t1421] 73 (0, 0)) (by (with_reducible repeat (first | refine blk_drewN ?_ _ | refine blk_drew ?_ | refine blk_alloc ?_ _)); exact BK1426.out) hb); have n3_ := Aside0.mk (blk_below (g := gb1427) (o := .cells #[.int .i64 t1422, .int .i64 t1423, .int .i64 t1424, .int .i64 t1425] 26 (0, 0)) (by (with_reducible repeat (first | refine blk_drewN ?_ _ | refine blk_drew ?_ | refine blk_alloc ?_ _)); exact BK1427.out) hb); have n4_ := Aside0.mk (blk_below (g := gb1444) (o := .cells #[.int .i64 t1439, .int .i64 t1440] 73 (0, 0)) (by (with_reducible repeat (first | refine blk_drewN ?_ _ | refine blk_drew ?_ | refine blk_alloc ?_ _)); exact BK1444.out) hb); have n5_ := Aside0.mk (below_step (by repeat (first | (with_reducible first | exact HB.out | apply below_alloc | apply pw_below_drewN | apply below_drew1 | refine below_set ?_ GE1411.out | refine below_set ?_ GE1426.out | refine below_set ?_ GE1427.out | refine below_set ?_ GE1444.out) | exact HB.out)) hb); clear HO1443; clear BK1411; clear BK1426; clear BK1427; clear BK1444; clear HB; have HO1443 := n0_; have BK1411 := n1_; have BK1426 := n2_; have BK1427 := n3_; have BK1444 := n4_; have HB := n5_; clear n0_ n1_ n2_ n3_ n4_ n5_; (try clear hb); (try clear hb2); (try clear hk); (try clear hi)))
        go_ret
        exact ⟨by first | rfl | (simp [errW_none, errW_some] <;> rfl) | (simp [*, errW_none, errW_some] <;> rfl), by repeat (first | (with_reducible first | exact HB.out | apply below_alloc | apply pw_below_drewN | apply below_drew1 | refine below_set ?_ GE1411.out | refine below_set ?_ GE1426.out | refine below_set ?_ GE1427.out | refine below_set ?_ GE1444.out) | exact HB.out)⟩
  ·
   rw [if_neg c7] at H
   have c7b0 : (t1412 == t1415) = false := beq_eq_false_iff_ne.mpr c7
   have c7b1 : (t1412 != t1415) = true := bne_iff_ne.mpr c7
   obtain rfl := Option.some.inj H
   go_enter Try.func7, Try.ntmps7
   go_wp2_with (first | ((with_reducible refine gate_callee (f := 10) rfl ?_); refine goesL_ (some 24) rfl rfl Try.func10 (by kernel_rfl) rfl #[.slice A0 l0.length c0] rfl (by (try simp only [List.map_toArray, List.map_cons, List.map_nil]); first | done | rfl | (simp only [List.length_drop, List.length_take]; rfl)) ?_; (with_reducible refine (laws_big.calls _ _ l0 false _ ?side1 ?side2 A2.out).mono ?_); (case side1 => repeat (first | exact HR0.out | (with_reducible refine Kd.C_alloc ?_ _) | (with_reducible refine Kd.C_drewN ?_ _) | (with_reducible refine Kd.C_drew ?_))); (case side2 => exact HC0.out); rintro e w' ⟨rfl, ⟨nd, rfl⟩⟩; refine ⟨_, rfl, ?_⟩) | ((with_reducible refine gate_callee (f := 45) rfl ?_); refine goesL_ (some 27) rfl rfl Try.func45 (by kernel_rfl) rfl #[.slice A0 l0.length c0] rfl (by (try simp only [List.map_toArray, List.map_cons, List.map_nil]); first | done | rfl | (simp only [List.length_drop, List.length_take]; rfl)) ?_; (with_reducible refine (spec_DrawPlaceOf.calls k _ _ l0 t1408 t1409 t1410 _ ?side1 ?side2 A4.out).mono ?_); (case side1 => repeat (first | exact HR0.out | (with_reducible refine Kd.C_alloc ?_ _) | (with_reducible refine Kd.C_drewN ?_ _) | (with_reducible refine Kd.C_drew ?_))); (case side2 => exact HC0.out); rintro e w103 ⟨rfl, hb⟩; refine ⟨_, rfl, ?_⟩; have n0_ := Aside0.mk (below_step (by repeat (first | (with_reducible first | exact HB.out | apply below_alloc | apply pw_below_drewN | apply below_drew1) | exact HB.out)) hb); clear HB; have HB := n0_; clear n0_; (try clear hb); (try clear hb2); (try clear hk); (try clear hi)) | ((with_reducible refine gate_dst (N := 3) rfl ?_); refine box_event ?hg (N := 3) ?hd (cs := #[.int .i64 0, .int .i64 0]) (t := 73) ?hr ?_; (case hd => rfl); (case hg => rfl); (case hr => first | (go_simp; done) | (go_simp; rfl)); intro gb1411 hg w104 hbox hb; have n0_ := Aside0.mk (below_step (by repeat (first | (with_reducible first | exact HB.out | apply below_alloc | apply pw_below_drewN | apply below_drew1) | exact HB.out)) hb); have n1_ := Aside0.mk (hbox); have n2_ := Aside0.mk ((by rw [hg]; exact (below_size (by repeat (first | (with_reducible first | exact HB.out | apply below_alloc | apply pw_below_drewN | apply below_drew1) | exact HB.out))) : w.heap.size ≤ gb1411)); have n3_ := Aside0.mk ((by rw [hg]; exact (below_size (by repeat (first | (with_reducible first | exact HB.out | apply below_alloc | apply pw_below_drewN | apply below_drew1) | exact HB.out))) : w.heap.size ≤ gb1411)); clear HB; have HB := n0_; have BK1411 := n1_; have GW1411 := n2_; have GE1411 := n3_; clear n0_ n1_ n2_ n3_; clear hb hbox hg; have hcz105_0 : w104.cell? ⟨gb1411, 0, none⟩ = some (.int .i64 0) := (blk_cell BK1411.out 0).trans rfl; have hcz105_1 : w104.cell? ⟨gb1411, 1, none⟩ = some (.int .i64 0) := (blk_cell BK1411.out 1).trans rfl; have hfz105_0 := blk_frozen BK1411.out 0; have hfz105_1 := blk_frozen BK1411.out 1) | ((with_reducible refine gate_callee (f := 46) rfl ?_); refine goesL_ (some 33) rfl rfl Try.func46 (by kernel_rfl) rfl #[.agg #[.int .i64 t1408, .int .i64 t1409], .int .i64 t1410] rfl (by (try simp only [List.map_toArray, List.map_cons, List.map_nil]); first | done | rfl | (simp only [List.length_drop, List.length_take]; rfl)) ?_; (with_reducible refine (impl_PlaceOf.calls k t1408 t1409 t1410 t1412 t1413 t1414 _ A5.out).mono ?_); rintro e w106 ⟨rfl, hb⟩; refine ⟨_, rfl, ?_⟩; have n0_ := Aside0.mk (blk_below (g := gb1411) (o := .cells #[.int .i64 t1408, .int .i64 t1409] 73 (0, 0)) (by (with_reducible repeat (first | refine blk_drewN ?_ _ | refine blk_drew ?_ | refine blk_alloc ?_ _)); refine blk_put (cs := #[.int .i64 t1408, .int .i64 0]) ?_ 1 _ rfl; (with_reducible repeat (first | refine blk_drewN ?_ _ | refine blk_drew ?_ | refine blk_alloc ?_ _)); refine blk_put (cs := #[.int .i64 0, .int .i64 0]) ?_ 0 _ rfl; (with_reducible repeat (first | refine blk_drewN ?_ _ | refine blk_drew ?_ | refine blk_alloc ?_ _)); exact BK1411.out) hb); have n1_ := Aside0.mk (below_step (by repeat (first | (with_reducible first | exact HB.out | apply below_alloc | apply pw_below_drewN | apply below_drew1 | refine below_set ?_ GE1411.out) | exact HB.out)) hb); clear BK1411; clear HB; have BK1411 := n0_; have HB := n1_; clear n0_ n1_; (try clear hb); (try clear hb2); (try clear hk); (try clear hi); have hcz107_0 : w106.cell? ⟨gb1411, 0, none⟩ = some (.int .i64 t1408) := (blk_cell BK1411.out 0).trans rfl; have hcz107_1 : w106.cell? ⟨gb1411, 1, none⟩ = some (.int .i64 t1409) := (blk_cell BK1411.out 1).trans rfl; have hfz107_0 := blk_frozen BK1411.out 0; have hfz107_1 := blk_frozen BK1411.out 1) | ((with_reducible refine gate_callee (f := 47) rfl ?_); refine goesL_ (some 40) rfl rfl Try.func47 (by kernel_rfl) rfl #[.agg #[.int .i64 t1408, .int .i64 t1409], .int .i64 t1410] rfl (by (try simp only [List.map_toArray, List.map_cons, List.map_nil]); first | done | rfl | (simp only [List.length_drop, List.length_take]; rfl)) ?_; (with_reducible refine (spec_PlaceOf.calls k t1408 t1409 t1410 t1415 t1416 t1417 _ A6.out).mono ?_); rintro e w108 ⟨rfl, hb⟩; refine ⟨_, rfl, ?_⟩; have n0_ := Aside0.mk (blk_below (g := gb1411) (o := .cells #[.int .i64 t1408, .int .i64 t1409] 73 (0, 0)) (by (with_reducible repeat (first | refine blk_drewN ?_ _ | refine blk_drew ?_ | refine blk_alloc ?_ _)); exact BK1411.out) hb); have n1_ := Aside0.mk (below_step (by repeat (first | (with_reducible first | exact HB.out | apply below_alloc | apply pw_below_drewN | apply below_drew1 | refine below_set ?_ GE1411.out) | exact HB.out)) hb); clear BK1411; clear HB; have BK1411 := n0_; have HB := n1_; clear n0_ n1_; (try clear hb); (try clear hb2); (try clear hk); (try clear hi)))
   go_ret
   exact ⟨by first | rfl | (simp [errW_none, errW_some] <;> rfl) | (simp [*, errW_none, errW_some] <;> rfl), by repeat (first | (with_reducible first | exact HB.out | apply below_alloc | apply pw_below_drewN | apply below_drew1 | refine below_set ?_ GE1411.out) | exact HB.out)⟩
end Go.Proofs.Ytbhlmeghbfmgiaa.F

namespace Go.Proofs.Ytbhlmeghbfmgiaa.Opened
open Go.ChangeShapes Go.WideShapes Go.Deep Go.RowKit Go.Joins Go.Proofs.YtbhlmeghbfmgiaaW.PrintWords
set_option linter.unusedVariables false
def I64 (n : Int) : Prop := -9223372036854775808 ≤ n ∧ n ≤ 9223372036854775807
theorem i64_of {n : Int} (h : (Lit.int .i64 n).wf = true) : I64 n := bounds_i64 h
section
variable {H : Type} {enc : TypeId × Value → H} {P : Program} {w : World} {base : Nat} {spare : Nat → Bool} {held : Bool}
def Fits (enc : TypeId × Value → H) (P : Program) (w : World) (base : Nat) (spare : Nat → Bool) (held : Bool) (fs : Array Field) (vs : List Value) : Prop :=
  vs.length = fs.size ∧ ∀ (j : Nat) (f : Field) (v : Value), fs[j]? = some f → vs[j]? = some v → ∃ (n : Nat) (y : DataW H × List MemPlace), DataW.trod enc P w base spare held n f.type [v] = some y
theorem Fits.int {fs : Array Field} {vs : List Value} (h : Fits enc P w base spare held fs vs) {j : Nat} {f : Field} (hf : fs[j]? = some f) (ht : P.underlying f.type = some (.int .i64)) : ∃ n, vs[j]? = some (.int .i64 n) ∧ I64 n := by
  have hj : j < vs.length := by rw [h.1]; exact (Array.getElem?_eq_some_iff.1 hf).1
  obtain ⟨m, y, hy⟩ := h.2 j f _ hf (List.getElem?_eq_getElem hj)
  obtain ⟨n, e, _, hw⟩ := DataW.trod_int ht hy
  simp only [List.cons.injEq, and_true] at e
  exact ⟨n, by rw [List.getElem?_eq_getElem hj, e], i64_of hw⟩
theorem Fits.bool {fs : Array Field} {vs : List Value} (h : Fits enc P w base spare held fs vs) {j : Nat} {f : Field} (hf : fs[j]? = some f) (ht : P.underlying f.type = some .bool) : ∃ b, vs[j]? = some (.bool b) := by
  have hj : j < vs.length := by rw [h.1]; exact (Array.getElem?_eq_some_iff.1 hf).1
  obtain ⟨m, y, hy⟩ := h.2 j f _ hf (List.getElem?_eq_getElem hj)
  obtain ⟨n, e, _⟩ := DataW.trod_bool ht hy
  simp only [List.cons.injEq, and_true] at e
  exact ⟨n, by rw [List.getElem?_eq_getElem hj, e]⟩
theorem open_nums {k : IntKind} {t e : TypeId} {a : Option Addr} {len cap : Nat} {dd : DataW H} {ps : List MemPlace} (ht : P.underlying t = some (.slice e)) (he : P.underlying e = some (.int k)) (hC : P.cellsOf e = 1)
    (h : DataW.Trod enc P w base spare held t (.slice a len cap) dd ps) : ∃ l : List Int, l.length = len ∧ len ≤ cap ∧ (Kd.int k).C w a len l ∧ ∀ x ∈ l, (Lit.int k x).wf = true := by
  obtain ⟨fuel, hf⟩ := h
  rcases open_ints ht he hC hf with ⟨hcs, _⟩ | ⟨x, l, c, zs, hcs, _, hl, hm, hz, _, hcell, hwz⟩
  · simp [Value.cells] at hcs
    obtain ⟨rfl, rfl, rfl⟩ := hcs
    exact ⟨[], rfl, Nat.le_refl _, Kd.C_nil _ w, by simp⟩
  · simp [Value.cells] at hcs
    obtain ⟨rfl, rfl, rfl⟩ := hcs
    have hlz : len ≤ zs.length := by rw [hz]; split <;> omega
    refine ⟨zs.take len, by simp [hlz], hl, ⟨by simp [hlz], by unfold maxLen at hm; omega, fun _ => ⟨x, rfl, fun j p hj => ⟨[.int k p], rfl, rfl, fun i u hu => ?_⟩⟩⟩, fun y hy => hwz y (List.mem_of_mem_take hy)⟩
    have hjl := (List.getElem?_eq_some_iff.1 hj).1
    rw [List.length_take] at hjl
    have hi : i = 0 := by
      have := (List.getElem?_eq_some_iff.1 hu).1
      simp at this
      omega
    subst hi
    have hu' : Value.int k p = u := by simpa using hu
    rw [← hu', show (Kd.int k).sz = 1 from rfl, Nat.mul_one, Nat.add_zero, hcell j (by omega)]
    rw [List.getElem?_take_of_lt (by omega)] at hj
    simp [hj]
end
end Go.Proofs.Ytbhlmeghbfmgiaa.Opened

namespace Go.Proofs.Ytbhlmeghbfmgiaa.F
open Go.RowKit Go.Proofs.Ytbhlmeghbfmgiaa.Opened Go.Proofs.YtbhlmeghbfmgiaaW.PrintWords Go.Proofs.YtbhlmeghbfmgiaaW.PrintLast
set_option linter.unusedVariables false
set_option linter.unusedSimpArgs false
theorem w1 {n m : Nat} (h : n < m) (hm : m ≤ 9223372036854775807) : wrap64 ((n : Int) + 1) = ((n + 1 : Nat) : Int) := by unfold wrap64; omega
theorem wid {x : Int} (h0 : -9223372036854775808 ≤ x) (h1 : x ≤ 9223372036854775807) : wrap64 x = x := by unfold wrap64; omega
theorem rd_nat (xs : List Int) (n : Nat) (h : n < xs.length) : rd xs (n : Int) = xs[n] := by simp [rd, h]
theorem rdT26 (xs : List S26) (n : Nat) (h : n < xs.length) : rd_T26 xs (n : Int) = xs[n] := by simp [rd_T26, h]
theorem rdT86 (xs : List S86) (n : Nat) (h : n < xs.length) : rd_T86 xs (n : Int) = xs[n] := by simp [rd_T86, h]
end Go.Proofs.Ytbhlmeghbfmgiaa.F

namespace Go.Proofs.Ytbhlmeghbfmgiaa.F
open Go.RowKit Go.Proofs.Ytbhlmeghbfmgiaa.Opened Go.Proofs.YtbhlmeghbfmgiaaW.PrintWords Go.Proofs.YtbhlmeghbfmgiaaW.PrintLast Go.Proofs.YtbhlmeghbfmgiaaW.PrintMore
set_option linter.unusedVariables false
set_option linter.unusedSimpArgs false
theorem spec_l1In.ok (a b c : Int) : spec_l1In.f a b c = some (decide (b ≤ a ∧ a ≤ c)) := by
  unfold spec_l1In.f
  by_cases h : b ≤ a <;> simp [h]
theorem impl_InRange.ok (a b c : Int) : impl_InRange.f a b c = some (decide (b ≤ a ∧ a ≤ c)) := by
  unfold impl_InRange.f
  by_cases h : b ≤ a <;> simp [h]
end Go.Proofs.Ytbhlmeghbfmgiaa.F

namespace Go.Proofs.Ytbhlmeghbfmgiaa.F
open Go.RowKit Go.Proofs.Ytbhlmeghbfmgiaa.Opened Go.Proofs.YtbhlmeghbfmgiaaW.PrintWords Go.Proofs.YtbhlmeghbfmgiaaW.PrintLast Go.Proofs.YtbhlmeghbfmgiaaW.PrintMore
set_option linter.unusedVariables false
set_option linter.unusedSimpArgs false
abbrev Evt := S26
def okE (e : Evt) : Prop := (0 ≤ e.f0 ∧ e.f0 ≤ 2000) ∧ (1 ≤ e.f1 ∧ e.f1 ≤ 96) ∧ (21 ≤ e.f2 ∧ e.f2 ≤ 108) ∧ (1 ≤ e.f3 ∧ e.f3 ≤ 4)
instance (e : Evt) : Decidable (okE e) := by unfold okE; infer_instance
def before (a b : Evt) : Prop := a.f0 < b.f0 ∨ (a.f0 = b.f0 ∧ (a.f3 < b.f3 ∨ (a.f3 = b.f3 ∧ a.f2 < b.f2)))
instance (a b : Evt) : Decidable (before a b) := by unfold before; infer_instance
theorem before_trans {a b c : Evt} (h : before a b) (h' : before b c) : before a c := by unfold before at *; omega
theorem spec_l8Ok.ok (e : Evt) : spec_l8Ok.f e.f0 e.f1 e.f2 e.f3 = some (decide (okE e)) := by
  unfold spec_l8Ok.f okE
  simp only [spec_l1In.ok, Option.bind_some]
  by_cases h1 : 0 ≤ e.f0 ∧ e.f0 ≤ 2000 <;> by_cases h2 : 1 ≤ e.f1 ∧ e.f1 ≤ 96 <;> by_cases h3 : 21 ≤ e.f2 ∧ e.f2 ≤ 108 <;> by_cases h4 : 1 ≤ e.f3 ∧ e.f3 ≤ 4 <;> simp [h1, h2, h3, h4]
theorem spec_l8Before.ok (a b : Evt) : spec_l8Before.f a.f0 a.f1 a.f2 a.f3 b.f0 b.f1 b.f2 b.f3 = some (decide (before a b)) := by
  unfold spec_l8Before.f before
  by_cases h1 : a.f0 = b.f0
  · by_cases h2 : a.f3 = b.f3 <;> simp [h1, h2]
  · simp [h1]
def cmpI (a b : Int) : Int := if a < b then -1 else if b < a then 1 else 0
theorem cmp_Compare_int.ok (a b : Int) : cmp_Compare_int.f a b = some (cmpI a b) := by
  unfold cmp_Compare_int.f cmp_isNaN_int.f cmpI
  by_cases h1 : a < b
  · simp [h1]
  · by_cases h2 : b < a <;> simp [h1, h2]
theorem cmp_Or_int.ok3 (x y z : Int) (k : Nat) (hk : 4 ≤ k) : cmp_Or_int.f k [x, y, z] = some (if x = 0 then (if y = 0 then z else y) else x) := by
  obtain ⟨k, rfl⟩ : ∃ m, k = m + 4 := ⟨k - 4, by omega⟩
  have e1 : wrap64 (1 : Int) = 1 := by unfold wrap64; omega
  have e2 : wrap64 (2 : Int) = 2 := by unfold wrap64; omega
  have e3 : wrap64 (3 : Int) = 3 := by unfold wrap64; omega
  by_cases h1 : x = 0
  · by_cases h2 : y = 0
    · by_cases h3 : z = 0 <;> simp [cmp_Or_int.f, cmp_Or_int.l0, rd, h1, h2, h3, e1, e2, e3]
    · simp [cmp_Or_int.f, cmp_Or_int.l0, rd, h1, h2, e1, e2, e3]
  · simp [cmp_Or_int.f, cmp_Or_int.l0, rd, h1, e1, e2, e3]
def ordE (a b : Evt) : Int := if cmpI a.f0 b.f0 = 0 then (if cmpI a.f3 b.f3 = 0 then cmpI a.f2 b.f2 else cmpI a.f3 b.f3) else cmpI a.f0 b.f0
theorem impl_eventOrder.ok (a b : Evt) (k : Nat) (hk : 4 ≤ k) : impl_eventOrder.f k a.f0 a.f1 a.f2 a.f3 b.f0 b.f1 b.f2 b.f3 = some (ordE a b) := by
  unfold impl_eventOrder.f
  simp only [cmp_Compare_int.ok, Option.bind_some, cmp_Or_int.ok3 _ _ _ k hk]
  rfl
theorem ordE_lt (a b : Evt) : ordE a b < 0 ↔ before a b := by
  unfold ordE cmpI before
  constructor
  · intro h; repeat' split at h
    all_goals omega
  · intro h; repeat' split
    all_goals omega
def scB : Option Evt → List Evt → Bool
  | _, [] => true
  | none, e :: l => decide (okE e) && scB (some e) l
  | some q, e :: l => decide (okE e) && (decide (before q e) && scB (some e) l)
def isScoreB (l : List Evt) : Bool := scB none l && decide (l.length ≤ 40)
theorem scB_some (q : Evt) (l : List Evt) : scB (some q) l = true ↔ (∀ x ∈ l, okE x) ∧ l.Pairwise before ∧ ∀ x ∈ l, before q x := by
  induction l generalizing q with
  | nil => simp [scB]
  | cons e l ih =>
    simp only [scB, Bool.and_eq_true, decide_eq_true_eq, ih e, List.mem_cons, forall_eq_or_imp, List.pairwise_cons]
    constructor
    · rintro ⟨h1, h2, h3, h4, h5⟩
      exact ⟨⟨h1, h3⟩, ⟨h5, h4⟩, h2, fun x hx => before_trans h2 (h5 x hx)⟩
    · rintro ⟨⟨h1, h3⟩, ⟨h5, h4⟩, h2, h6⟩
      exact ⟨h1, h2, h3, h4, h5⟩
theorem scB_none (l : List Evt) : scB none l = true ↔ (∀ x ∈ l, okE x) ∧ l.Pairwise before := by
  cases l with
  | nil => simp [scB]
  | cons e l =>
    simp only [scB, Bool.and_eq_true, decide_eq_true_eq, scB_some, List.mem_cons, forall_eq_or_imp, List.pairwise_cons]
    constructor
    · rintro ⟨h1, h3, h4, h5⟩
      exact ⟨⟨h1, h3⟩, h5, h4⟩
    · rintro ⟨⟨h1, h3⟩, h5, h4⟩
      exact ⟨h1, h3, h4, h5⟩
theorem isScoreB_iff (l : List Evt) : isScoreB l = true ↔ (∀ x ∈ l, okE x) ∧ l.Pairwise before ∧ l.length ≤ 40 := by
  unfold isScoreB
  rw [Bool.and_eq_true, scB_none, decide_eq_true_eq, and_assoc]
def prevAt (l : List Evt) (n : Nat) : Option Evt := if n = 0 then none else l[n - 1]?
theorem prevAt_next (l : List Evt) (n : Nat) (h : n < l.length) : prevAt l (n + 1) = some l[n] := by simp [prevAt, h]
theorem prevAt_pos (l : List Evt) (n : Nat) (h0 : n ≠ 0) (h : n - 1 < l.length) : prevAt l n = some l[n - 1] := by simp [prevAt, h0, h]
theorem spec_IsScore.loop (l : List Evt) (hm : l.length ≤ 9223372036854775807) : ∀ (d k n : Nat), l.length - n ≤ d → d < k → spec_IsScore.l0 k l (n : Int) = some (scB (prevAt l n) (l.drop n) && decide (l.length ≤ 40)) := by
  intro d
  induction d with
  | zero =>
    intro k n hd hk
    obtain ⟨k, rfl⟩ : ∃ m, k = m + 1 := ⟨k - 1, by omega⟩
    simp only [spec_IsScore.l0]
    rw [if_neg (by omega), List.drop_of_length_le (by omega)]
    have e : ((l.length : Int) ≤ 40) ↔ l.length ≤ 40 := by omega
    simp [scB, e]
  | succ d ih =>
    intro k n hd hk
    obtain ⟨k, rfl⟩ : ∃ m, k = m + 1 := ⟨k - 1, by omega⟩
    by_cases h : n < l.length
    · simp only [spec_IsScore.l0]
      rw [if_pos (by omega), if_pos (by omega), rdT26 l n h, spec_l8Ok.ok, w1 h hm, List.drop_eq_getElem_cons h]
      simp only [Option.bind_some]
      have ih' := ih k (n + 1) (by omega) (by omega)
      rw [prevAt_next l n h] at ih'
      by_cases c1 : okE l[n]
      · by_cases c2 : n = 0
        · subst c2
          rw [if_pos (by simpa using c1), if_neg (by omega), ih']
          simp [prevAt, scB, c1]
        · have e : wrap64 ((n : Int) - 1) = ((n - 1 : Nat) : Int) := by unfold wrap64; omega
          rw [if_pos (by simpa using c1), if_pos (by omega), e, if_pos (by omega), if_pos (by omega), rdT26 l (n - 1) (by omega), spec_l8Before.ok]
          simp only [Option.bind_some]
          rw [ih', prevAt_pos l n c2 (by omega)]
          by_cases c3 : before l[n - 1] l[n]
          · simp [scB, c1, c3]
          · simp [scB, c3]
      · rw [if_neg (by simpa using c1)]
        cases prevAt l n <;> simp [scB, c1]
    · simp only [spec_IsScore.l0]
      rw [if_neg (by omega), List.drop_of_length_le (by omega)]
      have e : ((l.length : Int) ≤ 40) ↔ l.length ≤ 40 := by omega
      simp [scB, e]
theorem spec_IsScore.ok (l : List Evt) (hm : l.length ≤ 9223372036854775807) (k : Nat) (hk : l.length < k) : spec_IsScore.f k l = some (isScoreB l) := by
  unfold spec_IsScore.f
  exact spec_IsScore.loop l hm l.length k 0 (by omega) hk
theorem impl_IsScore.loop (l : List Evt) (hm : l.length ≤ 9223372036854775807) : ∀ (d k n : Nat), l.length - n ≤ d → d + 4 < k → impl_IsScore.l0 k l l l.length (n : Int) = some (scB (prevAt l n) (l.drop n) && decide (l.length ≤ 40)) := by
  intro d
  induction d with
  | zero =>
    intro k n hd hk
    obtain ⟨k, rfl⟩ : ∃ m, k = m + 1 := ⟨k - 1, by omega⟩
    simp only [impl_IsScore.l0]
    rw [if_neg (by omega), List.drop_of_length_le (by omega)]
    have e : ((l.length : Int) ≤ 40) ↔ l.length ≤ 40 := by omega
    simp [scB, e]
  | succ d ih =>
    intro k n hd hk
    obtain ⟨k, rfl⟩ : ∃ m, k = m + 1 := ⟨k - 1, by omega⟩
    by_cases h : n < l.length
    · simp only [impl_IsScore.l0, impl_InRange.ok]
      rw [if_pos (by omega), if_pos (by omega), if_pos (by omega), rdT26 l n h, w1 h hm, List.drop_eq_getElem_cons h]
      simp only [Option.bind_some]
      have ih' := ih k (n + 1) (by omega) (by omega)
      rw [prevAt_next l n h] at ih'
      by_cases c1 : okE l[n]
      · obtain ⟨o1, o2, o3, o4⟩ := id c1
        rw [if_pos (by simpa using o1), if_pos (by simpa using o2), if_pos (by simpa using o3), if_pos (by simpa using o4)]
        by_cases c2 : n = 0
        · subst c2
          rw [if_neg (by omega), ih']
          simp [prevAt, scB, c1]
        · have e : wrap64 ((n : Int) - 1) = ((n - 1 : Nat) : Int) := by unfold wrap64; omega
          rw [if_pos (by omega), e, if_pos (by omega), if_pos (by omega), rdT26 l (n - 1) (by omega), impl_eventOrder.ok _ _ k (by omega)]
          simp only [Option.bind_some]
          rw [ih', prevAt_pos l n c2 (by omega)]
          by_cases c3 : before l[n - 1] l[n]
          · have := (ordE_lt l[n - 1] l[n]).2 c3
            rw [if_neg (by omega)]
            simp [scB, c1, c3]
          · have := mt (ordE_lt l[n - 1] l[n]).1 c3
            rw [if_pos (by omega)]
            simp [scB, c3]
      · have c1' := c1
        unfold okE at c1
        have R : scB (prevAt l n) (l[n] :: l.drop (n + 1)) = false := by cases prevAt l n <;> simp [scB, c1']
        rw [R, Bool.false_and]
        by_cases h1 : 0 ≤ l[n].f0 ∧ l[n].f0 ≤ 2000
        · by_cases h2 : 1 ≤ l[n].f1 ∧ l[n].f1 ≤ 96
          · by_cases h3 : 21 ≤ l[n].f2 ∧ l[n].f2 ≤ 108
            · by_cases h4 : 1 ≤ l[n].f3 ∧ l[n].f3 ≤ 4
              · exact absurd ⟨h1, h2, h3, h4⟩ c1
              · rw [if_pos (by simpa using h1), if_pos (by simpa using h2), if_pos (by simpa using h3), if_neg (by simpa using h4)]
            · rw [if_pos (by simpa using h1), if_pos (by simpa using h2), if_neg (by simpa using h3)]
          · rw [if_pos (by simpa using h1), if_neg (by simpa using h2)]
        · rw [if_neg (by simpa using h1)]
    · simp only [impl_IsScore.l0]
      rw [if_neg (by omega), List.drop_of_length_le (by omega)]
      have e : ((l.length : Int) ≤ 40) ↔ l.length ≤ 40 := by omega
      simp [scB, e]
theorem impl_IsScore.ok (l : List Evt) (hm : l.length ≤ 9223372036854775807) (k : Nat) (hk : l.length + 4 < k) : impl_IsScore.f k l = some (isScoreB l) := by
  unfold impl_IsScore.f
  exact impl_IsScore.loop l hm l.length k 0 (by omega) hk
end Go.Proofs.Ytbhlmeghbfmgiaa.F

namespace Go.Proofs.Ytbhlmeghbfmgiaa.F
open Go.RowKit Go.Proofs.Ytbhlmeghbfmgiaa.Opened Go.Proofs.YtbhlmeghbfmgiaaW.PrintWords Go.Proofs.YtbhlmeghbfmgiaaW.PrintLast Go.Proofs.YtbhlmeghbfmgiaaW.PrintMore
set_option linter.unusedVariables false
set_option linter.unusedSimpArgs false
def endStep (n : Int) (e : Evt) : Int := mx n (wrap64 (e.f0 + e.f1))
def endOf (l : List Evt) : Int := if isScoreB l = true then l.foldl endStep 0 else 0
theorem impl_EndOf.loop (l : List Evt) (hm : l.length ≤ 9223372036854775807) : ∀ (d k : Nat) (acc : Int) (n : Nat), l.length - n ≤ d → d < k → impl_EndOf.l0 k acc l l.length (n : Int) = some ((l.drop n).foldl endStep acc) := by
  intro d
  induction d with
  | zero =>
    intro k acc n hd hk
    obtain ⟨k, rfl⟩ : ∃ m, k = m + 1 := ⟨k - 1, by omega⟩
    simp only [impl_EndOf.l0]
    rw [if_neg (by omega), List.drop_of_length_le (by omega)]
    simp
  | succ d ih =>
    intro k acc n hd hk
    obtain ⟨k, rfl⟩ : ∃ m, k = m + 1 := ⟨k - 1, by omega⟩
    by_cases h : n < l.length
    · simp only [impl_EndOf.l0]
      rw [if_pos (by omega), if_pos (by omega), if_pos (by omega), rdT26 l n h, w1 h hm, ih k _ (n + 1) (by omega) (by omega), List.drop_eq_getElem_cons h, List.foldl_cons]
      rfl
    · simp only [impl_EndOf.l0]
      rw [if_neg (by omega), List.drop_of_length_le (by omega)]
      simp
theorem impl_EndOf.ok (l : List Evt) (hm : l.length ≤ 9223372036854775807) (k : Nat) (hk : l.length + 4 < k) : impl_EndOf.f k l = some (endOf l) := by
  unfold impl_EndOf.f endOf
  rw [impl_IsScore.ok l hm k hk]
  simp only [Option.bind_some]
  split
  · exact impl_EndOf.loop l hm l.length k 0 0 (by omega) (by omega)
  · rfl
end Go.Proofs.Ytbhlmeghbfmgiaa.F

namespace Go.Proofs.Ytbhlmeghbfmgiaa.F
open Go.RowKit Go.Proofs.Ytbhlmeghbfmgiaa.Opened Go.Proofs.YtbhlmeghbfmgiaaW.PrintWords Go.Proofs.YtbhlmeghbfmgiaaW.PrintLast Go.Proofs.YtbhlmeghbfmgiaaW.PrintMore
set_option linter.unusedVariables false
set_option linter.unusedSimpArgs false
def isMeter (a b : Int) : Prop := (1 ≤ a ∧ a ≤ 12) ∧ (b = 1 ∨ b = 2 ∨ b = 4 ∨ b = 8)
instance (a b : Int) : Decidable (isMeter a b) := by unfold isMeter; infer_instance
theorem spec_IsMeter.ok (a b : Int) : spec_IsMeter.f a b = some (decide (isMeter a b)) := by
  unfold spec_IsMeter.f isMeter
  rw [spec_l1In.ok]
  simp only [Option.bind_some]
  by_cases h : 1 ≤ a ∧ a ≤ 12
  · by_cases h1 : b = 1
    · simp [h, h1]
    · by_cases h2 : b = 2
      · simp [h, h2]
      · by_cases h4 : b = 4
        · simp [h, h4]
        · by_cases h8 : b = 8
          · simp [h, h8]
          · simp [h, h1, h2, h4, h8]
  · simp [h]
theorem impl_IsMeter.ok (a b : Int) : impl_IsMeter.f a b = some (decide (isMeter a b)) := by
  rw [← spec_IsMeter.ok]
  unfold impl_IsMeter.f spec_IsMeter.f
  rw [spec_l1In.ok, impl_InRange.ok]
def beatOf (b : Int) : Int := Int.tdiv 48 b
theorem beat_bd {a b : Int} (h : isMeter a b) : 6 ≤ beatOf b ∧ beatOf b ≤ 48 := by
  obtain ⟨_, rfl | rfl | rfl | rfl⟩ := h <;> decide
theorem beat_wrap {a b : Int} (h : isMeter a b) : wrap64 (Int.tdiv 48 b) = beatOf b := by
  have hb := beat_bd h
  show wrap64 (beatOf b) = beatOf b
  exact wid (by omega) (by omega)
theorem meter_ne {a b : Int} (h : isMeter a b) : b ≠ 0 := by
  obtain ⟨_, rfl | rfl | rfl | rfl⟩ := h <;> decide
theorem spec_l10Beat.ok {a b : Int} (h : isMeter a b) : spec_l10Beat.f a b = some (beatOf b) := by
  unfold spec_l10Beat.f
  rw [if_neg (meter_ne h), beat_wrap h]
theorem impl_Meter_beat.ok {a b : Int} (h : isMeter a b) : impl_Meter_beat.f a b = some (beatOf b) := by
  unfold impl_Meter_beat.f
  rw [if_neg (meter_ne h), beat_wrap h]
def barOf (a b : Int) : Int := if isMeter a b then a * beatOf b else 0
theorem bar_eq {a b : Int} (h : isMeter a b) : barOf a b = a * beatOf b := if_pos h
theorem bar_bd {a b : Int} (h : isMeter a b) : 6 ≤ barOf a b ∧ barOf a b ≤ 576 := by
  rw [bar_eq h]
  have e : beatOf 1 = 48 ∧ beatOf 2 = 24 ∧ beatOf 4 = 12 ∧ beatOf 8 = 6 := by decide
  obtain ⟨e1, e2, e4, e8⟩ := e
  obtain ⟨⟨h1, h2⟩, rfl | rfl | rfl | rfl⟩ := h <;> simp only [e1, e2, e4, e8] <;> omega
theorem bar_wrap {a b : Int} (h : isMeter a b) : wrap64 (a * beatOf b) = barOf a b := by
  have := bar_bd h
  rw [bar_eq h] at *
  unfold wrap64
  omega
theorem spec_BarLong.ok (a b : Int) : spec_BarLong.f a b = some (barOf a b) := by
  unfold spec_BarLong.f
  rw [spec_IsMeter.ok]
  by_cases h : isMeter a b
  · simp [h, spec_l10Beat.ok h, bar_wrap h]
  · simp [h, barOf]
theorem impl_BarLong.ok (a b : Int) : impl_BarLong.f a b = some (barOf a b) := by
  unfold impl_BarLong.f
  rw [impl_IsMeter.ok]
  by_cases h : isMeter a b
  · simp [h, impl_Meter_beat.ok h, bar_wrap h]
  · simp [h, barOf]
end Go.Proofs.Ytbhlmeghbfmgiaa.F

namespace Go.Proofs.Ytbhlmeghbfmgiaa.F
open Go.RowKit Go.Proofs.Ytbhlmeghbfmgiaa.Opened Go.Proofs.YtbhlmeghbfmgiaaW.PrintWords Go.Proofs.YtbhlmeghbfmgiaaW.PrintLast Go.Proofs.YtbhlmeghbfmgiaaW.PrintMore
set_option linter.unusedVariables false
set_option linter.unusedSimpArgs false
def ceilDiv (a b : Int) : Int := if ((0 : Int) ≤ a ∧ a ≤ 1000000000000) ∧ ((1 : Int) ≤ b ∧ b ≤ 1000000000000) then wrap64 (Int.tdiv (wrap64 ((wrap64 (a + b)) - 1)) b) else 0
theorem impl_CeilDiv.ok (a b : Int) : impl_CeilDiv.f a b = some (ceilDiv a b) := by
  unfold impl_CeilDiv.f ceilDiv
  simp only [impl_InRange.ok, Option.bind_some]
  by_cases h1 : (0 : Int) ≤ a ∧ a ≤ 1000000000000
  · by_cases h2 : (1 : Int) ≤ b ∧ b ≤ 1000000000000
    · have : ¬ b = 0 := by omega
      simp [h1, h2, this]
    · simp [h1, h2]
  · simp [h1]
def countBars (a b : Int) (l : List Evt) : Int := if isMeter a b then ceilDiv (endOf l) (barOf a b) else 0
theorem impl_CountBars.ok (a b : Int) (l : List Evt) (hm : l.length ≤ 1048576) (k : Nat) (hk : 2 * l.length + 20 < k) : impl_CountBars.f k a b l = some (countBars a b l) := by
  unfold impl_CountBars.f countBars
  rw [impl_IsMeter.ok, impl_EndOf.ok l (by omega) k (by omega), impl_BarLong.ok, Option.bind_some, Option.bind_some, Option.bind_some, impl_CeilDiv.ok]
  by_cases h : isMeter a b <;> simp [h]
end Go.Proofs.Ytbhlmeghbfmgiaa.F

namespace Go.Proofs.Ytbhlmeghbfmgiaa.F
open Go.RowKit Go.Proofs.Ytbhlmeghbfmgiaa.Opened Go.Proofs.YtbhlmeghbfmgiaaW.PrintWords Go.Proofs.YtbhlmeghbfmgiaaW.PrintLast Go.Proofs.YtbhlmeghbfmgiaaW.PrintMore
set_option linter.unusedVariables false
set_option linter.unusedSimpArgs false
abbrev Pce := S86
def okJ : Option Pce → Pce → Bool → Prop
  | none, e, more => ((1 : Int) ≤ e.f1 ∧ e.f1 ≤ 96) ∧ ((0 : Int) ≤ e.f0 ∧ e.f0 ≤ 3000) ∧ e.f2 = more
  | some q, e, more => ((1 : Int) ≤ e.f1 ∧ e.f1 ≤ 96) ∧ ((0 : Int) ≤ e.f0 ∧ e.f0 ≤ 3000) ∧ e.f0 = wrap64 (q.f0 + q.f1) ∧ e.f2 = more
instance (p : Option Pce) (e : Pce) (m : Bool) : Decidable (okJ p e m) := by cases p <;> (unfold okJ; infer_instance)
def jnB : Option Pce → List Pce → Bool
  | _, [] => true
  | p, e :: l => decide (okJ p e (!l.isEmpty)) && jnB (some e) l
def longs (n : Int) (l : List Pce) : Int := l.foldl (fun a e => wrap64 (a + e.f1)) n
def joinP (l : List Pce) : Int × Int × Bool := if ((1 : Int) ≤ l.length ∧ (l.length : Int) ≤ 200) ∧ jnB none l = true then ((l.getD 0 ⟨0, 0, false⟩).f0, longs 0 l, true) else (0, 0, false)
def prevJ (l : List Pce) (n : Nat) : Option Pce := if n = 0 then none else l[n - 1]?
theorem prevJ_next (l : List Pce) (n : Nat) (h : n < l.length) : prevJ l (n + 1) = some l[n] := by simp [prevJ, h]
theorem prevJ_pos (l : List Pce) (n : Nat) (h0 : n ≠ 0) (h : n - 1 < l.length) : prevJ l n = some l[n - 1] := by simp [prevJ, h0, h]
theorem more_eq (l : List Pce) (n : Nat) (h : n < l.length) : (!(l.drop (n + 1)).isEmpty) = decide (n + 1 < l.length) := by
  by_cases c : n + 1 < l.length
  · rw [List.drop_eq_getElem_cons c]
    simp [c]
  · rw [List.drop_of_length_le (by omega)]
    simp [c]
theorem impl_JoinPieces.loop (l : List Pce) (hl : (1 : Int) ≤ l.length ∧ (l.length : Int) ≤ 200) : ∀ (d k n : Nat) (acc : Int), l.length - n ≤ d → d < k → impl_JoinPieces.l0 k l acc l l.length (n : Int) = some (if jnB (prevJ l n) (l.drop n) = true then ((l.getD 0 ⟨0, 0, false⟩).f0, longs acc (l.drop n), true) else (0, 0, false)) := by
  have hfirst : rd_T86 l 0 = l.getD 0 ⟨0, 0, false⟩ := rfl
  intro d
  induction d with
  | zero =>
    intro k n acc hd hk
    obtain ⟨k, rfl⟩ : ∃ m, k = m + 1 := ⟨k - 1, by omega⟩
    simp only [impl_JoinPieces.l0]
    rw [if_neg (by omega), if_pos (by omega), List.drop_of_length_le (by omega), hfirst]
    simp [jnB, longs]
  | succ d ih =>
    intro k n acc hd hk
    obtain ⟨k, rfl⟩ : ∃ m, k = m + 1 := ⟨k - 1, by omega⟩
    by_cases h : n < l.length
    · have hm := more_eq l n h
      simp only [impl_JoinPieces.l0, impl_InRange.ok, Option.bind_some]
      rw [if_pos (by omega), if_pos (by omega), if_pos (by omega), rdT86 l n h, w1 h (by omega), List.drop_eq_getElem_cons h]
      have ih' := ih k (n + 1) (wrap64 (acc + l[n].f1)) (by omega) (by omega)
      rw [prevJ_next l n h] at ih'
      have hmm : decide ((n : Int) < wrap64 ((l.length : Int) - 1)) = decide (n + 1 < l.length) := by rw [wid (x := (l.length : Int) - 1) (by omega) (by omega)]; simp only [decide_eq_decide]; omega
      have hL : longs acc (l[n] :: l.drop (n + 1)) = longs (wrap64 (acc + l[n].f1)) (l.drop (n + 1)) := rfl
      rw [hL]
      by_cases c1 : (1 : Int) ≤ l[n].f1 ∧ l[n].f1 ≤ 96
      · rw [if_pos (by simpa using c1)]
        by_cases c2 : (0 : Int) ≤ l[n].f0 ∧ l[n].f0 ≤ 3000
        · rw [if_pos (by simpa using c2), hmm, ← hm]
          by_cases c3 : n = 0
          · subst c3
            rw [if_neg (by omega)]
            by_cases c4 : l[0].f2 = !(l.drop (0 + 1)).isEmpty
            · have : (l[0].f2 != !(l.drop (0 + 1)).isEmpty) = false := by rw [c4]; simp
              rw [this, if_neg (by simp), ih']
              have ok : okJ none l[0] (!(l.drop (0 + 1)).isEmpty) := ⟨c1, c2, c4⟩
              simp only [prevJ, if_true, jnB, ok, decide_true, Bool.true_and]
            · have : (l[0].f2 != !(l.drop (0 + 1)).isEmpty) = true := by simpa [bne_iff_ne] using c4
              rw [this, if_pos rfl]
              have ok : ¬ okJ none l[0] (!(l.drop (0 + 1)).isEmpty) := fun h => c4 h.2.2
              simp only [prevJ, if_true, jnB, ok, decide_false, Bool.false_and, Bool.false_eq_true, if_false]
          · have e : wrap64 ((n : Int) - 1) = ((n - 1 : Nat) : Int) := by unfold wrap64; omega
            rw [if_pos (by omega), e, if_pos (by omega), if_pos (by omega), rdT86 l (n - 1) (by omega), prevJ_pos l n c3 (by omega)]
            by_cases c5 : l[n].f0 = wrap64 (l[n - 1].f0 + l[n - 1].f1)
            · rw [if_pos c5]
              by_cases c4 : l[n].f2 = !(l.drop (n + 1)).isEmpty
              · have : (l[n].f2 != !(l.drop (n + 1)).isEmpty) = false := by rw [c4]; simp
                rw [this, if_neg (by simp), ih']
                have ok : okJ (some l[n - 1]) l[n] (!(l.drop (n + 1)).isEmpty) := ⟨c1, c2, c5, c4⟩
                simp only [jnB, ok, decide_true, Bool.true_and]
              · have : (l[n].f2 != !(l.drop (n + 1)).isEmpty) = true := by simpa [bne_iff_ne] using c4
                rw [this, if_pos rfl]
                have ok : ¬ okJ (some l[n - 1]) l[n] (!(l.drop (n + 1)).isEmpty) := fun h => c4 h.2.2.2
                simp only [jnB, ok, decide_false, Bool.false_and, Bool.false_eq_true, if_false]
            · rw [if_neg c5]
              have ok : ¬ okJ (some l[n - 1]) l[n] (!(l.drop (n + 1)).isEmpty) := fun h => c5 h.2.2.1
              simp only [jnB, ok, decide_false, Bool.false_and, Bool.false_eq_true, if_false]
        · rw [if_neg (by simpa using c2)]
          have ok : ∀ p, ¬ okJ p l[n] (!(l.drop (n + 1)).isEmpty) := fun p h => by cases p <;> exact c2 h.2.1
          simp only [jnB, ok, decide_false, Bool.false_and, Bool.false_eq_true, if_false]
      · rw [if_neg (by simpa using c1)]
        have ok : ∀ p, ¬ okJ p l[n] (!(l.drop (n + 1)).isEmpty) := fun p h => by cases p <;> exact c1 h.1
        simp only [jnB, ok, decide_false, Bool.false_and, Bool.false_eq_true, if_false]
    · simp only [impl_JoinPieces.l0]
      rw [if_neg (by omega), if_pos (by omega), List.drop_of_length_le (by omega), hfirst]
      simp [jnB, longs]
theorem impl_JoinPieces.ok (l : List Pce) (k : Nat) (hk : l.length < k) : impl_JoinPieces.f k l = some (joinP l) := by
  unfold impl_JoinPieces.f joinP
  rw [impl_InRange.ok]
  simp only [Option.bind_some]
  by_cases h : (1 : Int) ≤ l.length ∧ (l.length : Int) ≤ 200
  · have := impl_JoinPieces.loop l h l.length k 0 0 (by omega) hk
    rw [List.drop_zero] at this
    have hp : prevJ l 0 = none := rfl
    rw [hp] at this
    rw [if_pos (by simpa using h)]
    simp only [h, and_self, true_and]
    exact this
  · rw [if_neg (by simpa using h), if_neg (fun h' => h h'.1)]
end Go.Proofs.Ytbhlmeghbfmgiaa.F

namespace Go.Proofs.Ytbhlmeghbfmgiaa.F
open Go.RowKit Go.Proofs.Ytbhlmeghbfmgiaa.Opened Go.Proofs.YtbhlmeghbfmgiaaW.PrintWords Go.Proofs.YtbhlmeghbfmgiaaW.PrintLast Go.Proofs.YtbhlmeghbfmgiaaW.PrintMore
set_option linter.unusedVariables false
set_option linter.unusedSimpArgs false
abbrev Pcs := S86
def nextBar (bar stop a : Int) : Int := mn (a - a % bar + bar) stop
def pcs (bar stop : Int) : Nat → Int → List Pcs
  | 0, _ => []
  | d + 1, a => if a < stop then ⟨a, nextBar bar stop a - a, decide (nextBar bar stop a < stop)⟩ :: pcs bar stop d (nextBar bar stop a) else []
theorem pcs_length (bar stop : Int) (d : Nat) (a : Int) : (pcs bar stop d a).length ≤ d := by
  induction d generalizing a with
  | zero => simp [pcs]
  | succ d ih =>
    rw [pcs]
    split
    · have := ih (nextBar bar stop a)
      simp only [List.length_cons]
      omega
    · simp
theorem nextBar_gt {bar stop a : Int} (hb : (1 : Int) ≤ bar) (h0 : 0 ≤ a) (h : a < stop) : a < nextBar bar stop a ∧ nextBar bar stop a ≤ stop ∧ nextBar bar stop a ≤ a + bar := by
  have h1 := Int.emod_nonneg a (show bar ≠ 0 by omega)
  have h2 := Int.emod_lt_of_pos a (show 0 < bar by omega)
  unfold nextBar mn
  split <;> omega
theorem impl_PiecesOf.loop (bar stop : Int) (hb : (1 : Int) ≤ bar ∧ bar ≤ 1000) (hs : (0 : Int) ≤ stop ∧ stop ≤ 5000) : ∀ (d k : Nat) (acc : List Pcs) (a : Int), (0 : Int) ≤ a → (stop - a).toNat ≤ d → d < k → acc.length + d ≤ 1000000 → impl_PiecesOf.l0 k acc bar a stop = some (acc ++ pcs bar stop d a) := by
  intro d
  induction d with
  | zero =>
    intro k acc a h0 hd hk ha
    obtain ⟨k, rfl⟩ : ∃ m, k = m + 1 := ⟨k - 1, by omega⟩
    simp only [impl_PiecesOf.l0]
    rw [if_neg (by omega)]
    simp [pcs]
  | succ d ih =>
    intro k acc a h0 hd hk ha
    obtain ⟨k, rfl⟩ : ∃ m, k = m + 1 := ⟨k - 1, by omega⟩
    simp only [impl_PiecesOf.l0]
    by_cases h : a < stop
    · obtain ⟨g1, g2, g3⟩ := nextBar_gt hb.1 h0 h
      have h1 := Int.emod_nonneg a (show bar ≠ 0 by omega)
      have h2 := Int.emod_lt_of_pos a (show 0 < bar by omega)
      have e0 : Int.tmod a bar = a % bar := Int.tmod_eq_emod_of_nonneg h0
      have e1 : wrap64 (a - a % bar) = a - a % bar := wid (by omega) (by omega)
      have e2 : wrap64 (a - a % bar + bar) = a - a % bar + bar := wid (by omega) (by omega)
      have e3 : mn (a - a % bar + bar) stop = nextBar bar stop a := rfl
      have e4 : wrap64 (nextBar bar stop a - a) = nextBar bar stop a - a := wid (by omega) (by omega)
      rw [if_pos h, if_neg (by omega), if_pos (by omega), e0, e1, e2, e3, e4, ih k _ _ (by omega) (by omega) (by omega) (by simp; omega), pcs, if_pos h]
      simp only [List.append_assoc, List.singleton_append]
    · rw [if_neg h, pcs, if_neg h, List.append_nil]
def piecesOf (a b e0 e1 : Int) : List Pcs := if isMeter a b ∧ ((0 : Int) ≤ e0 ∧ e0 ≤ 2000) ∧ ((1 : Int) ≤ e1 ∧ e1 ≤ 96) then pcs (barOf a b) (e0 + e1) 96 e0 else []
theorem piecesOf_length (a b e0 e1 : Int) : (piecesOf a b e0 e1).length ≤ 96 := by
  unfold piecesOf
  split
  · exact pcs_length _ _ _ _
  · simp
theorem impl_PiecesOf.ok (a b e0 e1 e2 e3 : Int) (k : Nat) (hk : 200 < k) : impl_PiecesOf.f k a b e0 e1 e2 e3 = some (piecesOf a b e0 e1) := by
  obtain ⟨k, rfl⟩ : ∃ m, k = m + 1 := ⟨k - 1, by omega⟩
  unfold impl_PiecesOf.f piecesOf
  simp only [Option.bind_some, impl_IsMeter.ok, impl_InRange.ok, impl_PiecesOf.j0, impl_BarLong.ok]
  by_cases h1 : isMeter a b
  · by_cases h2 : (0 : Int) ≤ e0 ∧ e0 ≤ 2000
    · by_cases h3 : (1 : Int) ≤ e1 ∧ e1 ≤ 96
      · have hb := bar_bd h1
        have e : wrap64 (e0 + e1) = e0 + e1 := wid (by omega) (by omega)
        simp only [h1, h2, h3, and_self, decide_true, if_true, Bool.not_true, Bool.false_eq_true, if_false, e]
        have := impl_PiecesOf.loop (barOf a b) (e0 + e1) (by omega) (by omega) 96 k [] e0 h2.1 (by omega) (by omega) (by simp)
        simpa using this
      · simp [h1, h2, h3]
    · simp [h1, h2]
  · simp [h1]
end Go.Proofs.Ytbhlmeghbfmgiaa.F

namespace Go.Proofs.Ytbhlmeghbfmgiaa.F
open Go.RowKit Go.Proofs.Ytbhlmeghbfmgiaa.Opened Go.Proofs.YtbhlmeghbfmgiaaW.PrintWords Go.Proofs.YtbhlmeghbfmgiaaW.PrintLast Go.Proofs.YtbhlmeghbfmgiaaW.PrintMore
set_option linter.unusedVariables false
set_option linter.unusedSimpArgs false
theorem and255 (x : Int) : 0 ≤ Go.bits .and .i64 x 255 ∧ Go.bits .and .i64 x 255 ≤ 255 := by
  have h : (BitVec.ofInt 64 x &&& BitVec.ofInt 64 255).toNat ≤ 255 := by
    rw [BitVec.toNat_and]
    exact Nat.le_trans Nat.and_le_right (by decide)
  have e : Go.bits .and .i64 x 255 = IntKind.i64.wrap (((BitVec.ofInt 64 x &&& BitVec.ofInt 64 255).toNat : Nat) : Int) := rfl
  rw [e]
  generalize (BitVec.ofInt 64 x &&& BitVec.ofInt 64 255).toNat = n at h
  rw [IntKind.wrap_i64]
  omega
theorem spec_l1New.loop (l : List Int) (hm : l.length ≤ 9223372036854775807) : ∀ (d k n : Nat) (h : Int), l.length - n ≤ d → d < k → ∃ h', spec_l1New.l0 k l h (n : Int) = some (l, 0, h') := by
  intro d
  induction d with
  | zero =>
    intro k n h hd hk
    obtain ⟨k, rfl⟩ : ∃ m, k = m + 1 := ⟨k - 1, by omega⟩
    simp only [spec_l1New.l0]
    rw [if_neg (by omega)]
    exact ⟨h, rfl⟩
  | succ d ih =>
    intro k n h hd hk
    obtain ⟨k, rfl⟩ : ∃ m, k = m + 1 := ⟨k - 1, by omega⟩
    simp only [spec_l1New.l0]
    by_cases c : n < l.length
    · rw [if_pos (by omega)]
      by_cases c2 : (n : Int) < 4000
      · rw [if_pos c2, if_pos (by omega), w1 c hm]
        exact ih k (n + 1) _ (by omega) (by omega)
      · rw [if_neg c2]
        exact ⟨h, rfl⟩
    · rw [if_neg (by omega)]
      exact ⟨h, rfl⟩
theorem spec_l1New.ok (l : List Int) (hm : l.length ≤ 9223372036854775807) (k : Nat) (hk : l.length < k) : ∃ h', spec_l1New.f k l = some (l, 0, h') := by
  unfold spec_l1New.f
  exact spec_l1New.loop l hm l.length k 0 _ (by omega) hk
theorem spec_l1Byte.ok (b : List Int) (i h : Int) (hb : b.length ≤ 1048576) (hi : 0 ≤ i) (hi' : i ≤ b.length) : ∃ x i' h', spec_l1Byte.f b i h = some (x, i', h') ∧ (0 ≤ x ∧ x ≤ 255) ∧ 0 ≤ i' ∧ i' ≤ b.length := by
  unfold spec_l1Byte.f
  by_cases c : i < (b.length : Int)
  · rw [if_pos c, if_pos hi]
    have e : wrap64 (i + 1) = i + 1 := wid (by omega) (by omega)
    exact ⟨_, _, _, rfl, and255 _, by omega, by omega⟩
  · rw [if_neg c]
    exact ⟨_, _, _, rfl, and255 _, by omega, by omega⟩
theorem tmodR (x n : Int) (hx : 0 ≤ x) (hn : 0 < n) : 0 ≤ Int.tmod x n ∧ Int.tmod x n < n := by
  rw [Int.tmod_eq_emod_of_nonneg hx]
  exact ⟨Int.emod_nonneg _ (by omega), Int.emod_lt_of_pos _ hn⟩
theorem spec_l1Below.ok (b : List Int) (i h n : Int) (hb : b.length ≤ 1048576) (hi : 0 ≤ i) (hi' : i ≤ b.length) : ∃ x i' h', spec_l1Below.f b i h n = some (x, i', h') ∧ 0 ≤ x ∧ (x < n ∨ (n ≤ 0 ∧ x = 0)) ∧ 0 ≤ i' ∧ i' ≤ b.length := by
  unfold spec_l1Below.f
  by_cases c : n ≤ 0
  · rw [if_pos c]
    exact ⟨_, _, _, rfl, by omega, by omega, hi, hi'⟩
  · rw [if_neg c]
    obtain ⟨x, i1, h1, e1, bx, j1, j1'⟩ := spec_l1Byte.ok b i h hb hi hi'
    rw [e1]
    simp only [Option.bind_some]
    rw [if_neg (show ¬ n = 0 by omega)]
    by_cases c2 : n ≤ 256
    · rw [if_pos c2]
      have := tmodR x n (by omega) (by omega)
      exact ⟨_, _, _, rfl, by omega, by omega, j1, j1'⟩
    · rw [if_neg c2]
      obtain ⟨y, i2, h2, e2, by_, j2, j2'⟩ := spec_l1Byte.ok b i1 h1 hb j1 j1'
      rw [e2]
      simp only [Option.bind_some]
      obtain ⟨z, i3, h3, e3, bz, j3, j3'⟩ := spec_l1Byte.ok b i2 h2 hb j2 j2'
      rw [e3]
      simp only [Option.bind_some]
      rw [if_neg (show ¬ n = 0 by omega)]
      have e : wrap64 (wrap64 (wrap64 (x * 65536) + wrap64 (y * 256)) + z) = x * 65536 + y * 256 + z := by unfold wrap64; omega
      have := tmodR (x * 65536 + y * 256 + z) n (by omega) (by omega)
      rw [e]
      exact ⟨_, _, _, rfl, by omega, by omega, j3, j3'⟩
theorem spec_l1Below.ok' (b : List Int) (i h n : Int) (hn : 0 < n) (hb : b.length ≤ 1048576) (hi : 0 ≤ i) (hi' : i ≤ b.length) : ∃ x i' h', spec_l1Below.f b i h n = some (x, i', h') ∧ 0 ≤ x ∧ x < n ∧ 0 ≤ i' ∧ i' ≤ b.length := by
  obtain ⟨x, i', h', e, a1, a2, a3, a4⟩ := spec_l1Below.ok b i h n hb hi hi'
  exact ⟨x, i', h', e, a1, by omega, a3, a4⟩
theorem spec_l1Int.ok (b : List Int) (i h : Int) (l : List Int) (hl : 0 < l.length) (hb : b.length ≤ 1048576) (hi : 0 ≤ i) (hi' : i ≤ b.length) : ∃ x i' h', spec_l1Int.f b i h l = some (x, i', h') ∧ x ∈ l ∧ 0 ≤ i' ∧ i' ≤ b.length := by
  unfold spec_l1Int.f
  obtain ⟨x, i', h', e, a1, a2, a3, a4⟩ := spec_l1Below.ok' b i h l.length (by omega) hb hi hi'
  rw [e]
  simp only [Option.bind_some]
  rw [if_pos a1, if_pos a2]
  refine ⟨_, _, _, rfl, ?_, a3, a4⟩
  obtain ⟨m, rfl⟩ := Int.eq_ofNat_of_zero_le a1
  rw [rd_nat l m (by omega)]
  exact List.getElem_mem _
end Go.Proofs.Ytbhlmeghbfmgiaa.F

namespace Go.Proofs.Ytbhlmeghbfmgiaa.F
open Go.RowKit Go.Proofs.YtbhlmeghbfmgiaaW.PrintWords Go.Proofs.YtbhlmeghbfmgiaaW.PrintLast Go.Proofs.YtbhlmeghbfmgiaaW.PrintMore
attribute [local go_sem] max2_int min2_int max_two min_two max_three min_three max_four min_four
set_option linter.unusedVariables false
set_option linter.unusedSimpArgs false
theorem eqA26 (d : Nat) (w : World) (x0 y0 : Int) (x1 y1 : Int) (x2 y2 : Int) (x3 y3 : Int) :
  (Op.equalIn (d + 2) 26 (.agg #[.int .i64 x0, .int .i64 x1, .int .i64 x2, .int .i64 x3]) (.agg #[.int .i64 y0, .int .i64 y1, .int .i64 y2, .int .i64 y3])).run Try.prog w = .ok (x0 == y0 && (x1 == y1 && (x2 == y2 && (x3 == y3)))) w := by
 refine eqA_of Try.underlying26 (by kernel_rfl) ?_
 refine eqf_cons (by rfl) (by go_simp; rfl) (by go_simp; rfl) (by go_simp) ?_
 refine eqf_cons (by rfl) (by go_simp; rfl) (by go_simp; rfl) (by go_simp) ?_
 refine eqf_cons (by rfl) (by go_simp; rfl) (by go_simp; rfl) (by go_simp) ?_
 exact eqf_last (by rfl) (by go_simp; rfl) (by go_simp; rfl) (by go_simp)
end Go.Proofs.Ytbhlmeghbfmgiaa.F

namespace Go.Proofs.Ytbhlmeghbfmgiaa.F
open Go.RowKit Go.Proofs.YtbhlmeghbfmgiaaW.PrintWords Go.Proofs.YtbhlmeghbfmgiaaW.PrintLast Go.Proofs.YtbhlmeghbfmgiaaW.PrintMore
attribute [local go_sem] max2_int min2_int max_two min_two max_three min_three max_four min_four
set_option linter.unusedVariables false
set_option linter.unusedSimpArgs false
def notV (a1 : Int) (x : S26) : Bool := x.f3 != a1
structure VoInv (a1 : Int) (l x : List S26) (i j : Nat) : Prop where
 len : x.length = l.length
 lt : i < j
 le : j ≤ l.length
 kept : x.take i = (l.take j).filter (fun y => !notV a1 y)
 rest : x.drop j = l.drop j
theorem VoInv.skip {a1 : Int} {l x : List S26} {i j : Nat} (h : VoInv a1 l x i j) (hj : j < l.length) (hq : notV a1 l[j] = true) : VoInv a1 l x i (j + 1) := by
 have hx : j < x.length := by have := h.len; omega
 have hlt := h.lt
 refine ⟨h.len, by omega, hj, ?_, ?_⟩
 ·
  rw [h.kept, List.take_succ_eq_append_getElem hj, List.filter_append]
  simp [hq]
 ·
  have e := h.rest
  rw [List.drop_eq_getElem_cons hx, List.drop_eq_getElem_cons hj] at e
  exact (List.cons.inj e).2
theorem VoInv.done {a1 : Int} {l x : List S26} {i : Nat} (h : VoInv a1 l x i l.length) : x.take i = l.filter (fun y => !notV a1 y) := by
 have := h.kept
 rwa [List.take_length] at this
end Go.Proofs.Ytbhlmeghbfmgiaa.F

namespace Go.Proofs.Ytbhlmeghbfmgiaa.F
open Go.RowKit Go.Proofs.Ytbhlmeghbfmgiaa.Opened Go.Proofs.YtbhlmeghbfmgiaaW.PrintWords Go.Proofs.YtbhlmeghbfmgiaaW.PrintLast Go.Proofs.YtbhlmeghbfmgiaaW.PrintMore
set_option linter.unusedVariables false
set_option linter.unusedSimpArgs false
def insE (e : Evt) : List Evt → List Evt
  | [] => [e]
  | x :: l => if before x e then x :: insE e l else e :: x :: l
theorem insE_length (e : Evt) : ∀ l : List Evt, (insE e l).length = l.length + 1
  | [] => rfl
  | x :: l => by
    unfold insE
    split
    · simp only [List.length_cons, insE_length e l]
    · rfl
def putSc (l : List Evt) (e : Evt) : List Evt × Bool := if isScoreB (insE e l) = true then (insE e l, true) else (l, false)
theorem putSc_length (l : List Evt) (e : Evt) : (putSc l e).1.length ≤ l.length + 1 := by
  unfold putSc
  split
  · rw [insE_length]; exact Nat.le_refl _
  · exact Nat.le_succ _
theorem putSc_score {l : List Evt} (h : isScoreB l = true) (e : Evt) : isScoreB (putSc l e).1 = true := by
  unfold putSc
  split
  · rename_i h'; exact h'
  · exact h
theorem spec_l8Put.loop (e : Evt) (l : List Evt) (hm : l.length ≤ 2097152) : ∀ (d k n : Nat), l.length - n = d → n ≤ l.length → d < k → spec_l8Put.l0 k l (n : Int) e.f0 e.f1 e.f2 e.f3 = some (l.take n ++ insE e (l.drop n)) := by
  intro d
  induction d with
  | zero =>
    intro k n hd hn hk
    obtain ⟨k, rfl⟩ : ∃ m, k = m + 1 := ⟨k - 1, by omega⟩
    have hl : n = l.length := by omega
    subst hl
    have e3 : (l.take l.length).length = l.length := by simp
    have e4 : l.drop l.length = [] := by simp
    simp only [spec_l8Put.l0]
    rw [if_neg (by omega)]
    simp only [Option.bind_some, List.nil_append, List.length_nil, Int.toNat_natCast]
    rw [e4, if_pos (by omega), if_pos (by omega), if_pos (by omega)]
    rw [if_pos (by simp; omega), if_pos (by simp; omega)]
    simp [insE]
  | succ d ih =>
    intro k n hd hn hk
    obtain ⟨k, rfl⟩ : ∃ m, k = m + 1 := ⟨k - 1, by omega⟩
    have h : n < l.length := by omega
    have e4 : l.drop n = l[n] :: l.drop (n + 1) := List.drop_eq_getElem_cons h
    simp only [spec_l8Put.l0]
    rw [if_pos (by omega), if_pos (by omega), rdT26 l n h, spec_l8Before.ok]
    simp only [Option.bind_some, List.nil_append, List.length_nil, Int.toNat_natCast]
    by_cases c : before l[n] e
    · rw [if_pos (by simpa using c), w1 h (by omega), ih k (n + 1) (by omega) (by omega) (by omega), e4]
      simp only [insE, if_pos c]
      rw [List.take_succ_eq_append_getElem h, List.append_assoc]
      rfl
    · rw [if_neg (by simpa using c), if_pos (by omega), if_pos (by simp; omega), if_pos (by simp; omega), if_pos (by simp; omega), e4]
      simp only [insE, if_neg c]
      simp
theorem spec_l8Put.ok (e : Evt) (l : List Evt) (hm : l.length ≤ 2097152) (k : Nat) (hk : l.length < k) : spec_l8Put.f k l e.f0 e.f1 e.f2 e.f3 = some (insE e l) := by
  have := spec_l8Put.loop e l hm l.length k 0 (by omega) (by omega) hk
  unfold spec_l8Put.f
  simpa using this
theorem spec_PutEvent.ok (l : List Evt) (e : Evt) (hm : l.length ≤ 1048576) (k : Nat) (hk : l.length + 1 < k) : spec_PutEvent.f k l e.f0 e.f1 e.f2 e.f3 = some (putSc l e) := by
  unfold spec_PutEvent.f putSc
  have hl := insE_length e l
  rw [spec_l8Put.ok e l (by omega) k (by omega)]
  simp only [Option.bind_some]
  rw [spec_IsScore.ok _ (by omega) k (by omega)]
  simp only [Option.bind_some, List.nil_append, List.length_nil]
  rw [if_pos (show 0 + l.length < 4398046511104 by omega)]
  split <;> rfl
end Go.Proofs.Ytbhlmeghbfmgiaa.F

namespace Go.Proofs.Ytbhlmeghbfmgiaa.F
open Go.RowKit Go.Proofs.Ytbhlmeghbfmgiaa.Opened Go.Proofs.YtbhlmeghbfmgiaaW.PrintWords Go.Proofs.YtbhlmeghbfmgiaaW.PrintLast Go.Proofs.YtbhlmeghbfmgiaaW.PrintMore
set_option linter.unusedVariables false
set_option linter.unusedSimpArgs false
theorem spec_l8Event.ok (b : List Int) (i h : Int) (hb : b.length ≤ 1048576) (hi : 0 ≤ i) (hi' : i ≤ b.length) : ∃ x0 x1 x2 x3 i' h', spec_l8Event.f b i h = some (x0, x1, x2, x3, i', h') ∧ okE ⟨x0, x1, x2, x3⟩ ∧ 0 ≤ i' ∧ i' ≤ b.length := by
  unfold spec_l8Event.f
  obtain ⟨x1, i1, h1, e1, a1, b1, c1, d1⟩ := spec_l1Below.ok' b i h 20 (by omega) hb hi hi'
  rw [e1]
  simp only [Option.bind_some]
  obtain ⟨x2, i2, h2, e2, a2, b2, c2, d2⟩ := spec_l1Below.ok' b i1 h1 10 (by omega) hb c1 d1
  rw [e2]
  simp only [Option.bind_some]
  obtain ⟨x3, i3, h3, e3, a3, b3, c3, d3⟩ := spec_l1Below.ok' b i2 h2 18 (by omega) hb c2 d2
  rw [e3]
  simp only [Option.bind_some]
  obtain ⟨x4, i4, h4, e4, a4, b4, c4, d4⟩ := spec_l1Below.ok' b i3 h3 3 (by omega) hb c3 d3
  rw [e4]
  simp only [Option.bind_some]
  refine ⟨_, _, _, _, _, _, rfl, ?_, c4, d4⟩
  have w1 : wrap64 (6 * x1) = 6 * x1 := wid (by omega) (by omega)
  have w2 : wrap64 (1 + x2) = 1 + x2 := wid (by omega) (by omega)
  have w3 : wrap64 (3 * (1 + x2)) = 3 * (1 + x2) := wid (by omega) (by omega)
  have w4 : wrap64 (55 + x3) = 55 + x3 := wid (by omega) (by omega)
  have w5 : wrap64 (1 + x4) = 1 + x4 := wid (by omega) (by omega)
  rw [w1, w2, w3, w4, w5]
  unfold okE
  simp only
  omega
theorem spec_l8Draw.loop (b : List Int) (hb : b.length ≤ 1048576) : ∀ (d k : Nat) (acc : List Evt) (i h : Int), 0 ≤ i → i ≤ b.length → acc.length + 2 * d + 2 < k → acc.length + d ≤ 1000 → isScoreB acc = true → ∃ l i' h', spec_l8Draw.l0 k acc (d : Int) b i h = some (l, i', h') ∧ l.length ≤ acc.length + d ∧ isScoreB l = true ∧ 0 ≤ i' ∧ i' ≤ b.length := by
  intro d
  induction d with
  | zero =>
    intro k acc i h hi hi' hk ha hs
    obtain ⟨k, rfl⟩ : ∃ m, k = m + 1 := ⟨k - 1, by omega⟩
    simp only [spec_l8Draw.l0]
    rw [if_neg (by omega)]
    exact ⟨_, _, _, rfl, by omega, hs, hi, hi'⟩
  | succ d ih =>
    intro k acc i h hi hi' hk ha hs
    obtain ⟨k, rfl⟩ : ∃ m, k = m + 1 := ⟨k - 1, by omega⟩
    simp only [spec_l8Draw.l0]
    rw [if_pos (by omega)]
    obtain ⟨x0, x1, x2, x3, i1, h1, e1, g1, c1, d1⟩ := spec_l8Event.ok b i h hb hi hi'
    rw [e1]
    simp only [Option.bind_some]
    have hp : spec_PutEvent.f k acc x0 x1 x2 x3 = some (putSc acc ⟨x0, x1, x2, x3⟩) := spec_PutEvent.ok acc ⟨x0, x1, x2, x3⟩ (by omega) k (by omega)
    rw [hp]
    simp only [Option.bind_some]
    have e : wrap64 (((d + 1 : Nat) : Int) - 1) = (d : Int) := by unfold wrap64; omega
    rw [e]
    have hl := putSc_length acc ⟨x0, x1, x2, x3⟩
    obtain ⟨l, i', h', e4, a4, s4, b4, c4⟩ := ih k (putSc acc ⟨x0, x1, x2, x3⟩).1 i1 h1 c1 d1 (by omega) (by omega) (putSc_score hs _)
    exact ⟨l, i', h', e4, by omega, s4, b4, c4⟩
theorem spec_l8Draw.ok (b : List Int) (hb : b.length ≤ 1048576) (k : Nat) (hk : 40 < k) (i h : Int) (hi : 0 ≤ i) (hi' : i ≤ b.length) : ∃ l i' h', spec_l8Draw.f k b i h = some (l, i', h') ∧ l.length ≤ 12 ∧ isScoreB l = true ∧ 0 ≤ i' ∧ i' ≤ b.length := by
  unfold spec_l8Draw.f
  obtain ⟨x1, i1, h1, e1, a1, b1, c1, d1⟩ := spec_l1Below.ok' b i h 13 (by omega) hb hi hi'
  rw [e1]
  simp only [Option.bind_some]
  obtain ⟨m, rfl⟩ := Int.eq_ofNat_of_zero_le a1
  obtain ⟨l, i', h', e4, a4, s4, b4, c4⟩ := spec_l8Draw.loop b hb m k [] i1 h1 c1 d1 (by simp; omega) (by simp; omega) (by decide)
  exact ⟨l, i', h', e4, by simp at a4; omega, s4, b4, c4⟩
theorem spec_l8Any.ok (b : List Int) (hb : b.length ≤ 1048576) (k : Nat) (hk : 40 < k) (i h : Int) (hi : 0 ≤ i) (hi' : i ≤ b.length) : ∃ l i' h', spec_l8Any.f k b i h = some (l, i', h') ∧ l.length ≤ 13 ∧ 0 ≤ i' ∧ i' ≤ b.length := by
  unfold spec_l8Any.f
  obtain ⟨l, i2, h2, e2, a2, s2, c2, d2⟩ := spec_l8Draw.ok b hb k hk i h hi hi'
  rw [e2]
  simp only [Option.bind_some]
  by_cases h0 : (l.length : Int) = 0
  · rw [if_pos h0]
    exact ⟨_, _, _, rfl, by omega, c2, d2⟩
  · rw [if_neg h0]
    obtain ⟨x3, i3, h3, e3, a3, b3, c3, d3⟩ := spec_l1Below.ok' b i2 h2 l.length (by omega) hb c2 d2
    rw [e3]
    simp only [Option.bind_some]
    obtain ⟨x4, i4, h4, e4, a4, b4, c4, d4⟩ := spec_l1Below.ok' b i3 h3 9 (by omega) hb c3 d3
    rw [e4]
    simp only [Option.bind_some]
    by_cases s0 : x4 = 0
    · rw [if_pos s0]
      obtain ⟨x5, i5, h5, e5, a5, c5, d5⟩ := spec_l1Int.ok b i4 h4 [-1, 2000, 2001] (by simp) hb c4 d4
      rw [e5]
      simp only [Option.bind_some]
      rw [if_pos a3, if_pos b3]
      exact ⟨_, _, _, rfl, by simp; omega, c5, d5⟩
    · rw [if_neg s0]
      by_cases s1 : x4 = 1
      · rw [if_pos s1]
        obtain ⟨x5, i5, h5, e5, a5, c5, d5⟩ := spec_l1Int.ok b i4 h4 [0, 96, 97] (by simp) hb c4 d4
        rw [e5]
        simp only [Option.bind_some]
        rw [if_pos a3, if_pos b3]
        exact ⟨_, _, _, rfl, by simp; omega, c5, d5⟩
      · rw [if_neg s1]
        by_cases s2 : x4 = 2
        · rw [if_pos s2]
          obtain ⟨x5, i5, h5, e5, a5, c5, d5⟩ := spec_l1Int.ok b i4 h4 [20, 108, 109] (by simp) hb c4 d4
          rw [e5]
          simp only [Option.bind_some]
          rw [if_pos a3, if_pos b3]
          exact ⟨_, _, _, rfl, by simp; omega, c5, d5⟩
        · rw [if_neg s2]
          by_cases s3 : x4 = 3
          · rw [if_pos s3]
            obtain ⟨x5, i5, h5, e5, a5, c5, d5⟩ := spec_l1Int.ok b i4 h4 [0, 4, 5] (by simp) hb c4 d4
            rw [e5]
            simp only [Option.bind_some]
            rw [if_pos a3, if_pos b3]
            exact ⟨_, _, _, rfl, by simp; omega, c5, d5⟩
          · rw [if_neg s3]
            by_cases s4 : x4 = 4
            · rw [if_pos s4, if_pos (by omega), if_pos (by omega)]
              exact ⟨_, _, _, rfl, by simp; omega, c4, d4⟩
            · rw [if_neg s4]
              exact ⟨_, _, _, rfl, by omega, c4, d4⟩
end Go.Proofs.Ytbhlmeghbfmgiaa.F

namespace Go.Proofs.Ytbhlmeghbfmgiaa.Pure
open Go.RowKit Go.Proofs.Ytbhlmeghbfmgiaa.F Go.Proofs.Ytbhlmeghbfmgiaa.Opened Go.Proofs.YtbhlmeghbfmgiaaW.PrintWords Go.Proofs.YtbhlmeghbfmgiaaW.PrintLast Go.Proofs.YtbhlmeghbfmgiaaW.PrintMore
set_option linter.unusedVariables false
set_option linter.unusedSimpArgs false
theorem drawM (b : List Int) (hb : b.length ≤ 1048576) (i h : Int) (hi : 0 ≤ i) (hi' : i ≤ b.length) : ∃ x y i' h', spec_l10Any.f b i h = some (x, y, i', h') ∧ 0 ≤ i' ∧ i' ≤ b.length := by
  unfold spec_l10Any.f spec_l10Draw.f
  obtain ⟨x1, i1, h1, e1, a1, b1, c1, d1⟩ := spec_l1Below.ok' b i h 4 (by omega) hb hi hi'
  rw [e1]
  simp only [Option.bind_some]
  obtain ⟨x5, i5, h5, e5, a5, c5, d5⟩ := spec_l1Int.ok b i1 h1 [4, 4, 4, 8, 2] (by simp) hb c1 d1
  rw [e5]
  simp only [Option.bind_some]
  obtain ⟨x2, i2, h2, e2, a2, b2, c2, d2⟩ := spec_l1Below.ok' b i5 h5 9 (by omega) hb c5 d5
  rw [e2]
  simp only [Option.bind_some]
  by_cases s0 : x2 = 0
  · rw [if_pos s0]
    obtain ⟨x6, i6, h6, e6, a6, c6, d6⟩ := spec_l1Int.ok b i2 h2 [0, 12, 13] (by simp) hb c2 d2
    rw [e6]
    exact ⟨_, _, _, _, rfl, c6, d6⟩
  · rw [if_neg s0]
    by_cases s1 : x2 = 1
    · rw [if_pos s1]
      obtain ⟨x6, i6, h6, e6, a6, c6, d6⟩ := spec_l1Int.ok b i2 h2 [0, 1, 3, 16] (by simp) hb c2 d2
      rw [e6]
      exact ⟨_, _, _, _, rfl, c6, d6⟩
    · rw [if_neg s1]
      exact ⟨_, _, _, _, rfl, c2, d2⟩
theorem drawPlace (l0 : List Int) (hb : l0.length ≤ 1048576) (k : Nat) (hk : l0.length + 60 < k) : ∃ a b t, spec_DrawPlaceOf.f k l0 = some (a, b, t) := by
  unfold spec_DrawPlaceOf.f
  obtain ⟨h1, e1⟩ := spec_l1New.ok l0 (by omega) k (by omega)
  rw [e1]
  simp only [Option.bind_some]
  obtain ⟨a, b, i2, h2, e2, c2, d2⟩ := drawM l0 hb 0 h1 (by omega) (by omega)
  rw [e2]
  simp only [Option.bind_some]
  obtain ⟨x3, i3, h3, e3, a3, b3, c3, d3⟩ := spec_l1Below.ok' l0 i2 h2 300 (by omega) hb c2 d2
  rw [e3]
  simp only [Option.bind_some]
  obtain ⟨x4, i4, h4, e4, a4, b4, c4, d4⟩ := spec_l1Below.ok' l0 i3 h3 300 (by omega) hb c3 d3
  rw [e4]
  simp only [Option.bind_some]
  obtain ⟨x5, i5, h5, e5, a5, b5, c5, d5⟩ := spec_l1Below.ok' l0 i4 h4 300 (by omega) hb c4 d4
  rw [e5]
  simp only [Option.bind_some]
  obtain ⟨x6, i6, h6, e6, a6, c6, d6⟩ := spec_l1Int.ok l0 i5 h5 [0, 2000, 2001, -1, x3, x4, x5] (by simp) hb c5 d5
  rw [e6]
  exact ⟨_, _, _, rfl⟩
theorem drawPieces (l0 : List Int) (hb : l0.length ≤ 1048576) (k : Nat) (hk : l0.length + 60 < k) : ∃ a b e0 e1 e2 e3, spec_DrawPiecesOf.f k l0 = some (a, b, e0, e1, e2, e3) := by
  unfold spec_DrawPiecesOf.f
  obtain ⟨h1, e1⟩ := spec_l1New.ok l0 (by omega) k (by omega)
  rw [e1]
  simp only [Option.bind_some]
  obtain ⟨a, b, i2, h2, e2, c2, d2⟩ := drawM l0 hb 0 h1 (by omega) (by omega)
  rw [e2]
  simp only [Option.bind_some]
  obtain ⟨x0, x1, x2, x3, i3, h3, e3, g3, c3, d3⟩ := spec_l8Event.ok l0 i2 h2 hb c2 d2
  rw [e3]
  simp only [Option.bind_some]
  obtain ⟨x4, i4, h4, e4, a4, b4, c4, d4⟩ := spec_l1Below.ok' l0 i3 h3 7 (by omega) hb c3 d3
  rw [e4]
  simp only [Option.bind_some]
  by_cases s0 : x4 = 0
  · rw [if_pos s0]
    obtain ⟨x6, i6, h6, e6, a6, c6, d6⟩ := spec_l1Int.ok l0 i4 h4 [-1, 2000, 2001] (by simp) hb c4 d4
    rw [e6]
    exact ⟨_, _, _, _, _, _, rfl⟩
  · rw [if_neg s0]
    by_cases s1 : x4 = 1
    · rw [if_pos s1]
      obtain ⟨x6, i6, h6, e6, a6, c6, d6⟩ := spec_l1Int.ok l0 i4 h4 [0, 96, 97] (by simp) hb c4 d4
      rw [e6]
      exact ⟨_, _, _, _, _, _, rfl⟩
    · rw [if_neg s1]
      exact ⟨_, _, _, _, _, _, rfl⟩
theorem drawCount (l0 : List Int) (hb : l0.length ≤ 1048576) (k : Nat) (hk : l0.length + 60 < k) : ∃ a b l, spec_DrawCountBars.f k l0 = some (a, b, l) ∧ l.length ≤ 13 := by
  unfold spec_DrawCountBars.f
  obtain ⟨h1, e1⟩ := spec_l1New.ok l0 (by omega) k (by omega)
  rw [e1]
  simp only [Option.bind_some]
  obtain ⟨a, b, i2, h2, e2, c2, d2⟩ := drawM l0 hb 0 h1 (by omega) (by omega)
  rw [e2]
  simp only [Option.bind_some]
  obtain ⟨l, i3, h3, e3, a3, c3, d3⟩ := spec_l8Any.ok l0 hb k (by omega) i2 h2 c2 d2
  rw [e3]
  exact ⟨_, _, _, rfl, a3⟩
def placeOf (a b t : Int) : Int × Int × Int := if isMeter a b ∧ (0 ≤ t ∧ t ≤ 2000) then (t / barOf a b + 1, (t % barOf a b) / beatOf b + 1, (t % barOf a b) % beatOf b) else (0, 0, 0)
theorem place_bd {a b t : Int} (h : isMeter a b) (ht : 0 ≤ t ∧ t ≤ 2000) : (0 ≤ t / barOf a b ∧ t / barOf a b ≤ 334) ∧ (0 ≤ (t % barOf a b) / beatOf b ∧ (t % barOf a b) / beatOf b < a) ∧ (0 ≤ (t % barOf a b) % beatOf b) ∧ t / barOf a b * barOf a b + (t % barOf a b) / beatOf b * beatOf b + (t % barOf a b) % beatOf b = t ∧ t / barOf a b * barOf a b ≤ t ∧ 0 ≤ t / barOf a b * barOf a b ∧ 0 ≤ (t % barOf a b) / beatOf b * beatOf b ∧ (t % barOf a b) / beatOf b * beatOf b ≤ t := by
  have hb := bar_bd h
  have hc := beat_bd h
  have ha := h.1
  have e := bar_eq h
  have s0 := Int.emod_nonneg t (show barOf a b ≠ 0 by omega)
  have s1 := Int.emod_lt_of_pos t (show 0 < barOf a b by omega)
  have q := Int.mul_ediv_add_emod t (barOf a b)
  have q0 : 0 ≤ t / barOf a b := Int.ediv_nonneg ht.1 (by omega)
  have q1 : t / barOf a b ≤ 334 := by
    have : t / barOf a b < 335 := Int.ediv_lt_of_lt_mul (by omega) (by omega)
    omega
  have sm : t % barOf a b ≤ t := by
    have : 0 ≤ barOf a b * (t / barOf a b) := Int.mul_nonneg (by omega) q0
    omega
  generalize t % barOf a b = s at *
  generalize t / barOf a b = n at *
  have u0 := Int.emod_nonneg s (show beatOf b ≠ 0 by omega)
  have u1 := Int.emod_lt_of_pos s (show 0 < beatOf b by omega)
  have v := Int.mul_ediv_add_emod s (beatOf b)
  have v0 : 0 ≤ s / beatOf b := Int.ediv_nonneg s0 (by omega)
  have v1 : s / beatOf b < a := Int.ediv_lt_of_lt_mul (by omega) (by omega)
  generalize s % beatOf b = y at *
  generalize s / beatOf b = x at *
  have w0 : 0 ≤ beatOf b * x := Int.mul_nonneg (by omega) v0
  have w1 : 0 ≤ barOf a b * n := Int.mul_nonneg (by omega) q0
  rw [Int.mul_comm n, Int.mul_comm x]
  refine ⟨⟨q0, q1⟩, ⟨v0, v1⟩, u0, ?_, ?_, w1, w0, ?_⟩ <;> omega
theorem impl_PlaceOf.ok (a b t : Int) (k : Nat) (hk : 2 < k) : impl_PlaceOf.f k a b t = some (placeOf a b t) := by
  obtain ⟨k, rfl⟩ : ∃ m, k = m + 1 := ⟨k - 1, by omega⟩
  unfold impl_PlaceOf.f
  rw [impl_IsMeter.ok, impl_InRange.ok]
  simp only [Option.bind_some, impl_PlaceOf.j0]
  by_cases h : isMeter a b
  · by_cases ht : 0 ≤ t ∧ t ≤ 2000
    · have hb := bar_bd h
      have hc := beat_bd h
      have hp := place_bd h ht
      have s0 := Int.emod_nonneg t (show barOf a b ≠ 0 by omega)
      have e1 : Int.tdiv t (barOf a b) = t / barOf a b := Int.tdiv_eq_ediv_of_nonneg ht.1
      have e2 : Int.tmod t (barOf a b) = t % barOf a b := Int.tmod_eq_emod_of_nonneg ht.1
      have e3 : Int.tdiv (t % barOf a b) (beatOf b) = (t % barOf a b) / beatOf b := Int.tdiv_eq_ediv_of_nonneg s0
      have e4 : Int.tmod (t % barOf a b) (beatOf b) = (t % barOf a b) % beatOf b := Int.tmod_eq_emod_of_nonneg s0
      have ha := h.1
      have n1 : ¬ barOf a b = 0 := by omega
      have n2 : ¬ beatOf b = 0 := by omega
      have ep : placeOf a b t = (t / barOf a b + 1, (t % barOf a b) / beatOf b + 1, (t % barOf a b) % beatOf b) := if_pos ⟨h, ht⟩
      rw [ep, decide_eq_true h, decide_eq_true ht, impl_BarLong.ok, impl_Meter_beat.ok h]
      simp only [Option.bind_some, if_true, Bool.not_true, Bool.false_eq_true, if_false, if_neg n1, if_neg n2]
      rw [e1, e2, e3, e4]
      generalize t / barOf a b = n at *
      generalize t % barOf a b = s at *
      generalize s / beatOf b = x at *
      rw [wid (x := n) (by omega) (by omega), wid (x := n + 1) (by omega) (by omega), wid (x := x) (by omega) (by omega), wid (x := x + 1) (by omega) (by omega)]
    · have ep : placeOf a b t = (0, 0, 0) := if_neg (fun hh => ht hh.2)
      rw [ep, decide_eq_true h, decide_eq_false ht]
      simp
  · have ep : placeOf a b t = (0, 0, 0) := if_neg (fun hh => h hh.1)
    rw [ep, decide_eq_false h]
    simp
theorem spec_PlaceOf.ok (a b t : Int) (k : Nat) (hk : 2 < k) : spec_PlaceOf.f k a b t = some (placeOf a b t) := by
  rw [← impl_PlaceOf.ok a b t k hk]
  obtain ⟨k, rfl⟩ : ∃ m, k = m + 1 := ⟨k - 1, by omega⟩
  unfold impl_PlaceOf.f spec_PlaceOf.f
  rw [impl_IsMeter.ok, impl_InRange.ok, spec_IsMeter.ok, spec_l1In.ok]
  simp only [Option.bind_some, impl_PlaceOf.j0, spec_PlaceOf.j0]
  by_cases h : isMeter a b
  · have hb := bar_bd h
    have hc := beat_bd h
    have n1 : ¬ barOf a b = 0 := by omega
    have n2 : ¬ beatOf b = 0 := by omega
    rw [impl_BarLong.ok, spec_BarLong.ok, impl_Meter_beat.ok h, spec_l10Beat.ok h]
    simp only [Option.bind_some, if_neg n1, if_neg n2]
  · rw [decide_eq_false h]
    simp
theorem tick_place (a b t : Int) (h : isMeter a b) (ht : 0 ≤ t ∧ t ≤ 2000) (k : Nat) (hk : 2 < k) : impl_TickOf.f k a b (placeOf a b t).1 (placeOf a b t).2.1 = some (t - (placeOf a b t).2.2, true) := by
  obtain ⟨k, rfl⟩ : ∃ m, k = m + 1 := ⟨k - 1, by omega⟩
  have hp := place_bd h ht
  unfold placeOf
  rw [if_pos ⟨h, ht⟩]
  simp only
  generalize t / barOf a b = n at *
  generalize t % barOf a b = s at *
  generalize s / beatOf b = x at *
  generalize s % beatOf b = y at *
  unfold impl_TickOf.f
  rw [impl_IsMeter.ok, impl_InRange.ok, impl_InRange.ok, decide_eq_true h, decide_eq_true (show 1 ≤ n + 1 ∧ n + 1 ≤ 500 by omega), decide_eq_true (show 1 ≤ x + 1 ∧ x + 1 ≤ a by omega)]
  simp only [Option.bind_some, if_true, impl_TickOf.j0, Bool.not_true, Bool.false_eq_true, if_false]
  have w1 : wrap64 (n + 1 - 1) = n := by rw [wid (by omega) (by omega)]; omega
  have w2 : wrap64 (x + 1 - 1) = x := by
    have := h.1
    rw [wid (by omega) (by omega)]; omega
  rw [impl_BarLong.ok, impl_Meter_beat.ok h]
  simp only [Option.bind_some, w1, w2]
  have w3 : wrap64 (n * barOf a b) = n * barOf a b := wid (by omega) (by omega)
  have w4 : wrap64 (x * beatOf b) = x * beatOf b := wid (by omega) (by omega)
  have w5 : wrap64 (n * barOf a b + x * beatOf b) = t - y := by rw [wid (by omega) (by omega)]; omega
  rw [w3, w4, w5, if_neg (by omega)]
def inBar (bar : Int) (x : Pcs) : Prop := (0 ≤ x.f0 ∧ x.f0 ≤ 3000) ∧ (1 ≤ x.f1 ∧ x.f1 ≤ 96) ∧ x.f0 / bar = (x.f0 + x.f1 - 1) / bar
theorem pcs_inBar {bar stop : Int} (hb : (1 : Int) ≤ bar) (hs : stop ≤ 2500) : ∀ (d : Nat) (a : Int), 0 ≤ a → stop - a ≤ 96 → ∀ x ∈ pcs bar stop d a, inBar bar x := by
  intro d
  induction d with
  | zero => intro a h0 h1 x hx; simp [pcs] at hx
  | succ d ih =>
    intro a h0 h1 x hx
    rw [pcs] at hx
    by_cases h : a < stop
    · obtain ⟨g1, g2, g3⟩ := nextBar_gt hb h0 h
      rw [if_pos h, List.mem_cons] at hx
      rcases hx with rfl | hx
      · refine ⟨⟨h0, by simp only; omega⟩, ⟨by simp only; omega, by simp only; omega⟩, ?_⟩
        simp only
        have e : a + (nextBar bar stop a - a) - 1 = nextBar bar stop a - 1 := by omega
        rw [e]
        have q := Int.mul_ediv_add_emod a bar
        have s0 := Int.emod_nonneg a (show bar ≠ 0 by omega)
        have hn : nextBar bar stop a ≤ a - a % bar + bar := by unfold nextBar mn; split <;> omega
        symm
        rw [Int.ediv_eq_iff_of_pos (by omega)]
        generalize a / bar = n at *
        have : bar * n = n * bar := Int.mul_comm _ _
        have : (n + 1) * bar = n * bar + bar := by rw [Int.add_mul, Int.one_mul]
        omega
      · exact ih _ (by omega) (by omega) x hx
    · rw [if_neg h] at hx
      simp at hx
theorem pcs_join {bar stop : Int} (hb : (1 : Int) ≤ bar) (hs : 0 ≤ stop ∧ stop ≤ 2500) : ∀ (d : Nat) (a : Int) (p : Option Pce), 0 ≤ a → stop - a ≤ 96 → stop - a ≤ d → (∀ q, p = some q → a = wrap64 (q.f0 + q.f1)) → jnB p (pcs bar stop d a) = true := by
  intro d
  induction d with
  | zero => intro a p h0 h1 h2 hp; cases p <;> rfl
  | succ d ih =>
    intro a p h0 h1 h2 hp
    rw [pcs]
    by_cases h : a < stop
    · obtain ⟨g1, g2, g3⟩ := nextBar_gt hb h0 h
      rw [if_pos h]
      have hm : (!(pcs bar stop d (nextBar bar stop a)).isEmpty) = decide (nextBar bar stop a < stop) := by
        by_cases hn : nextBar bar stop a < stop
        · cases d with
          | zero => omega
          | succ d => rw [pcs, if_pos hn]; simp [hn]
        · cases d with
          | zero => simp [pcs, hn]
          | succ d => rw [pcs, if_neg hn]; simp [hn]
      have hr := ih (nextBar bar stop a) (some ⟨a, nextBar bar stop a - a, decide (nextBar bar stop a < stop)⟩) (by omega) (by omega) (by omega) (fun q hq => by
        obtain rfl := Option.some.inj hq
        simp only
        rw [wid (by omega) (by omega)]
        omega)
      have hok : okJ p ⟨a, nextBar bar stop a - a, decide (nextBar bar stop a < stop)⟩ (!(pcs bar stop d (nextBar bar stop a)).isEmpty) := by
        rw [hm]
        cases p with
        | none => exact ⟨⟨by simp only; omega, by simp only; omega⟩, ⟨by simp only; omega, by simp only; omega⟩, rfl⟩
        | some q => exact ⟨⟨by simp only; omega, by simp only; omega⟩, ⟨by simp only; omega, by simp only; omega⟩, hp q rfl, rfl⟩
      have : jnB p (⟨a, nextBar bar stop a - a, decide (nextBar bar stop a < stop)⟩ :: pcs bar stop d (nextBar bar stop a)) = (decide (okJ p ⟨a, nextBar bar stop a - a, decide (nextBar bar stop a < stop)⟩ (!(pcs bar stop d (nextBar bar stop a)).isEmpty)) && jnB (some ⟨a, nextBar bar stop a - a, decide (nextBar bar stop a < stop)⟩) (pcs bar stop d (nextBar bar stop a))) := by cases p <;> rfl
      rw [this, hr, decide_eq_true hok]
      rfl
    · rw [if_neg h]
      cases p <;> rfl
theorem pcs_longs {bar stop : Int} (hb : (1 : Int) ≤ bar) (hs : 0 ≤ stop ∧ stop ≤ 2500) : ∀ (d : Nat) (a n : Int), 0 ≤ a → a ≤ stop → stop - a ≤ d → 0 ≤ n → n + (stop - a) ≤ 100 → longs n (pcs bar stop d a) = n + (stop - a) := by
  intro d
  induction d with
  | zero =>
    intro a n h0 h1 h2 h3 h4
    simp only [pcs, longs, List.foldl_nil]
    omega
  | succ d ih =>
    intro a n h0 h1 h2 h3 h4
    rw [pcs]
    by_cases h : a < stop
    · obtain ⟨g1, g2, g3⟩ := nextBar_gt hb h0 h
      rw [if_pos h]
      have e : longs n (⟨a, nextBar bar stop a - a, decide (nextBar bar stop a < stop)⟩ :: pcs bar stop d (nextBar bar stop a)) = longs (wrap64 (n + (nextBar bar stop a - a))) (pcs bar stop d (nextBar bar stop a)) := rfl
      have w : wrap64 (n + (nextBar bar stop a - a)) = n + (nextBar bar stop a - a) := wid (by omega) (by omega)
      rw [e, w]
      rw [ih _ _ (by omega) g2 (by omega) (by omega) (by omega)]
      omega
    · rw [if_neg h]
      simp only [longs, List.foldl_nil]
      omega
theorem j3_ok (l0 : List Int) (hb : l0.length ≤ 1048576) (k : Nat) (hk : l0.length + 100 < k) : laws_FnBars.j3 k l0 = some true := by
  obtain ⟨k, rfl⟩ : ∃ m, k = m + 1 := ⟨k - 1, by omega⟩
  simp only [laws_FnBars.j3]
  obtain ⟨a, b, l, e, h⟩ := drawCount l0 hb k (by omega)
  rw [e]
  simp only [Option.bind_some]
  rw [impl_CountBars.ok a b l (by omega) k (by omega), impl_BarLong.ok, impl_EndOf.ok l (by omega) k (by omega), impl_IsMeter.ok]
  simp only [Option.bind_some]
  by_cases hm : isMeter a b
  · have hend : 0 ≤ endOf l ∧ endOf l ≤ 2096 := by
      unfold endOf
      by_cases hs : isScoreB l = true
      · rw [if_pos hs]
        have hok := ((isScoreB_iff l).1 hs).1
        have : ∀ (l : List Evt) (n : Int), (∀ x ∈ l, okE x) → 0 ≤ n ∧ n ≤ 2096 → 0 ≤ l.foldl endStep n ∧ l.foldl endStep n ≤ 2096 := by
          intro l
          induction l with
          | nil => intro n _ h; exact h
          | cons x l ih =>
            intro n hx hn
            rw [List.foldl_cons]
            refine ih _ (fun y hy => hx y (by simp [hy])) ?_
            have := hx x (by simp)
            unfold okE at this
            unfold endStep mx
            rw [wid (by omega) (by omega)]
            split <;> omega
        exact this l 0 hok (by omega)
      · rw [if_neg hs]
        omega
    have hbd := bar_bd hm
    have hc : countBars a b l = (endOf l + barOf a b - 1) / barOf a b := by
      unfold countBars ceilDiv
      rw [if_pos hm, if_pos ⟨⟨hend.1, by omega⟩, ⟨by omega, by omega⟩⟩]
      have w1 : wrap64 (endOf l + barOf a b) = endOf l + barOf a b := wid (by omega) (by omega)
      have w2 : wrap64 (endOf l + barOf a b - 1) = endOf l + barOf a b - 1 := wid (by omega) (by omega)
      rw [w1, w2, Int.tdiv_eq_ediv_of_nonneg (by omega)]
      have q0 : 0 ≤ (endOf l + barOf a b - 1) / barOf a b := Int.ediv_nonneg (by omega) (by omega)
      have q1 : (endOf l + barOf a b - 1) / barOf a b < 3000 := Int.ediv_lt_of_lt_mul (by omega) (by omega)
      exact wid (by omega) (by omega)
    rw [hc]
    have q := Int.mul_ediv_add_emod (endOf l + barOf a b - 1) (barOf a b)
    have s0 := Int.emod_nonneg (endOf l + barOf a b - 1) (show barOf a b ≠ 0 by omega)
    have s1 := Int.emod_lt_of_pos (endOf l + barOf a b - 1) (show 0 < barOf a b by omega)
    generalize (endOf l + barOf a b - 1) / barOf a b = n at *
    have c : barOf a b * n = n * barOf a b := Int.mul_comm _ _
    have w : wrap64 (n * barOf a b) = n * barOf a b := wid (by omega) (by omega)
    rw [w, if_pos (by omega)]
  · rw [decide_eq_false hm]
    split <;> rfl
theorem barsLoop (l0 : List Int) (hb : l0.length ≤ 1048576) (a b : Int) (hm : isMeter a b) (l : List Pcs) (hl : l.length ≤ 96) (hin : ∀ x ∈ l, inBar (barOf a b) x) : ∀ (d k n : Nat), l.length - n ≤ d → d + l0.length + 101 < k → laws_FnBars.l0 k l0 l (n : Int) a b = some true := by
  intro d
  have hbd := bar_bd hm
  induction d with
  | zero =>
    intro k n hd hk
    obtain ⟨k, rfl⟩ : ∃ m, k = m + 1 := ⟨k - 1, by omega⟩
    simp only [laws_FnBars.l0]
    rw [if_neg (by omega)]
    exact j3_ok l0 hb k (by omega)
  | succ d ih =>
    intro k n hd hk
    obtain ⟨k, rfl⟩ : ∃ m, k = m + 1 := ⟨k - 1, by omega⟩
    simp only [laws_FnBars.l0]
    by_cases h : n < l.length
    · have hx := hin l[n] (List.getElem_mem h)
      obtain ⟨h1, h2, h3⟩ := hx
      have u1 : wrap64 (l[n].f0 + l[n].f1) = l[n].f0 + l[n].f1 := wid (by omega) (by omega)
      have u2 : wrap64 (l[n].f0 + l[n].f1 - 1) = l[n].f0 + l[n].f1 - 1 := wid (by omega) (by omega)
      rw [if_pos (by omega), if_pos (by omega), impl_BarLong.ok]
      simp only [Option.bind_some]
      rw [if_neg (by omega), if_neg (by omega), rdT86 l n h, u1, u2, Int.tdiv_eq_ediv_of_nonneg h1.1, Int.tdiv_eq_ediv_of_nonneg (by omega), h3, if_pos rfl, w1 h (by omega)]
      exact ih k (n + 1) (by omega) (by omega)
    · rw [if_neg (by omega)]
      exact j3_ok l0 hb k (by omega)
theorem j0_ok (l0 : List Int) (hb : l0.length ≤ 1048576) (k : Nat) (hk : l0.length + 500 < k) : laws_FnBars.j0 k l0 = some true := by
  obtain ⟨k, rfl⟩ : ∃ m, k = m + 2 := ⟨k - 2, by omega⟩
  simp only [laws_FnBars.j0]
  obtain ⟨a, b, e0, e1, e2, e3, e⟩ := drawPieces l0 hb (k + 1) (by omega)
  rw [e]
  simp only [Option.bind_some]
  rw [impl_PiecesOf.ok a b e0 e1 e2 e3 (k + 1) (by omega)]
  simp only [Option.bind_some]
  have hl := piecesOf_length a b e0 e1
  by_cases hv : isMeter a b ∧ ((0 : Int) ≤ e0 ∧ e0 ≤ 2000) ∧ ((1 : Int) ≤ e1 ∧ e1 ≤ 96)
  · obtain ⟨hm, h0, h1⟩ := hv
    have hbd := bar_bd hm
    have ep : piecesOf a b e0 e1 = pcs (barOf a b) (e0 + e1) 96 e0 := by unfold piecesOf; rw [if_pos ⟨hm, h0, h1⟩]
    have hin := pcs_inBar (bar := barOf a b) (stop := e0 + e1) (by omega) (by omega) 96 e0 h0.1 (by omega)
    have hjn := pcs_join (bar := barOf a b) (stop := e0 + e1) (by omega) (by omega) 96 e0 none h0.1 (by omega) (by omega) (fun q hq => by simp at hq)
    have hlo := pcs_longs (bar := barOf a b) (stop := e0 + e1) (by omega) (by omega) 96 e0 0 h0.1 (by omega) (by omega) (by omega) (by omega)
    rw [← ep] at hin hjn hlo
    have hhd : ((piecesOf a b e0 e1).getD 0 ⟨0, 0, false⟩).f0 = e0 ∧ 0 < (piecesOf a b e0 e1).length := by
      rw [ep, pcs, if_pos (by omega)]
      simp
    have hj : joinP (piecesOf a b e0 e1) = (e0, e1, true) := by
      unfold joinP
      rw [if_pos ⟨⟨by omega, by omega⟩, hjn⟩, hhd.1, hlo]
      simp only [Prod.mk.injEq, true_and, and_true]
      omega
    rw [if_pos (by omega), impl_JoinPieces.ok _ (k + 1) (by omega), hj]
    simp only [Option.bind_some, if_true, laws_FnBars.j1]
    rw [if_neg (by simp)]
    exact barsLoop l0 hb a b hm _ hl hin (piecesOf a b e0 e1).length k 0 (by omega) (by omega)
  · have : piecesOf a b e0 e1 = [] := by unfold piecesOf; rw [if_neg hv]
    rw [this, if_neg (by simp)]
    exact j3_ok l0 hb (k + 1) (by omega)
theorem pure_FnBars (l0 : List Int) (hl : l0.length ≤ 9223372036854775807) (hg : ∀ x ∈ l0, (Lit.int .u8 x).wf = true) : ∃ k, laws_FnBars.f k l0 = some true := by
  by_cases hb : (l0.length : Int) > 1048576
  · refine ⟨0, ?_⟩
    unfold laws_FnBars.f laws_big.f
    simp [hb]
  · obtain ⟨K, hK⟩ : ∃ K : Nat, l0.length + 10000 ≤ K := ⟨_, Nat.le_refl _⟩
    refine ⟨K, ?_⟩
    have hj := j0_ok l0 (by omega) K (by omega)
    obtain ⟨a, b, t, e⟩ := drawPlace l0 (by omega) K (by omega)
    unfold laws_FnBars.f laws_big.f
    simp only [Option.bind_some, hb, decide_false, Bool.false_eq_true, if_false]
    rw [e]
    simp only [Option.bind_some]
    rw [impl_PlaceOf.ok a b t K (by omega), spec_PlaceOf.ok a b t K (by omega)]
    simp only [Option.bind_some, if_true]
    by_cases hv : isMeter a b ∧ (0 ≤ t ∧ t ≤ 2000)
    · have hp := place_bd hv.1 hv.2
      have ht := tick_place a b t hv.1 hv.2 K (by omega)
      rw [ht]
      simp only [Option.bind_some, if_true]
      have ep : placeOf a b t = (t / barOf a b + 1, (t % barOf a b) / beatOf b + 1, (t % barOf a b) % beatOf b) := if_pos hv
      rw [ep]
      simp only
      have w : wrap64 (t - (t % barOf a b) % beatOf b + (t % barOf a b) % beatOf b) = t := by
        rw [wid (by omega) (by omega)]
        omega
      rw [if_pos (by omega), if_pos (by omega), if_pos w, if_neg (by omega)]
      exact hj
    · have ep : placeOf a b t = (0, 0, 0) := if_neg hv
      rw [ep]
      simp only
      rw [if_neg (by omega)]
      exact hj
end Go.Proofs.Ytbhlmeghbfmgiaa.Pure

namespace Go.Proofs.Ytbhlmeghbfmgiaa.fnBars
open Go.ChangeShapes Go.WideShapes Go.ChangeAt Go.RowKit Go.Joins Go.Proofs.YtbhlmeghbfmgiaaW.PrintWords Go.Proofs.Ytbhlmeghbfmgiaa.Opened Go.Proofs.Ytbhlmeghbfmgiaa.F
open Go.ChangeMaps (open_string shut_string)
set_option linter.unusedVariables false
theorem own : ownKnob Try.prog.godebug = none := by kernel_rfl
theorem laidOut : laidOutB Try.prog = true := by kernel_rfl
set_option maxRecDepth 100000 in
theorem lifted (os : Os) (started : os.Started) (H : Type) (enc : TypeId × Value → H) :
    ReturnsInHanded {} Try.checked os 7 .any (Rows.fnBarsSpec.pre6 enc Try.prog Try.f7 Rows.fnBarsRow.domain false) (Rows.fnBarsSpec.post enc Try.prog Try.f7 false true false false) := by
  refine returnsInHanded_of_change_sized (C := Try.checked) own started (by kernel_rfl) Try.func7
    (ChangeSpec.witness6 (enc := enc) (C := Try.checked) false ⟨#[], #[.slice none 0 0], []⟩ 8 (by kernel_rfl) (by kernel_rfl) (by kernel_rfl) (by kernel_rfl)) ?_
  intro W base args ds gs before hval0 hW hcnd hsz0 _
  have hval : ∀ (j : Nat) t v, Try.f7.params[j]? = some t → args[j]? = some v → Value.okWide Try.prog W .any base t v := hval0
  have hW' := hW
  obtain ⟨p, q, hA0, hV, rfl, hfz, hnd⟩ := hW
  have hA : DataW.TrodAll enc Try.prog W 0 (fun _ => true) true Try.f7.params.toList args.toList ds p := hA0
  rw [Try.params7] at hA hval
  obtain ⟨v0, vs0, d0, ds0, p0, q0, hargs, rfl, rfl, h0, r0⟩ := trodAll_cons hA
  obtain ⟨rfl, rfl, rfl⟩ := trodAll_nil r0
  obtain rfl : args = #[v0] := by cases args; simp_all
  obtain ⟨rfl, rfl⟩ := trodVars_none hV
  have k0 := h0
  have lt0 : ∀ x ∈ p0, x.block < W.heap.size := by obtain ⟨m, hm⟩ := k0; exact DataW.trod_lt m _ _ _ hm
  obtain ⟨b0, len0, cap0, rfl⟩ := okWide_slice Try.underlying22 (hval 0 22 v0 rfl rfl)
  obtain ⟨l0, hl0, hc0, hC0, hg0⟩ := open_nums (k := .u8) Try.underlying22 Try.underlying5 (by kernel_rfl) h0
  subst hl0
  clear hA0 hval0 hsz0
  obtain ⟨kk, hp⟩ := Pure.pure_FnBars l0 hC0.2.1 hg0
  refine (laws_FnBars.calls kk _ _ l0 true W hC0 hc0 hp).mono fun e W' ⟨he, bel0⟩ => ?_
  have bel : Below W.heap.size W W' := bel0
  subst he
  exact ⟨_, rfl, _, _, _, [], _, [], hW', trodAll_mk1 (shut_bool Try.underlying4 _), (trodAll_cons_mk (Below.trod laidOut (by kernel_rfl) (of_decide_eq_true (by kernel_rfl)) k0 bel lt0) trodAll_mk0), rfl, bel.frame _, fun h => by cases h⟩
theorem over : Rows.fnBarsRow.holds Try.pinned (OpenSpec.ofChange Rows.fnBarsSpec) :=
  OpenClaim.holds_of_wide 7 Try.f7 rfl rfl rfl rfl rfl rfl rfl ⟨rfl, rfl, rfl, rfl, rfl⟩ rfl rfl rfl rfl rfl (by kernel_rfl) Try.func7 (by kernel_rfl)
    (of_decide_eq_true (by kernel_rfl)) (by unfold Func.isWrapper; first | (rw [if_pos (by decide +kernel)]; kernel_rfl) | (rw [if_neg (by decide +kernel)]; exact ⟨rfl, rfl⟩))
    (fun os started H enc _ => lifted os started H enc)
theorem proved : Rows.FnBarsSaid := over
#print axioms proved
end Go.Proofs.Ytbhlmeghbfmgiaa.fnBars
namespace Go.Proofs.Ytbhlmeghbfmgiaa
theorem fnBars_holds : Rows.FnBarsSaid := fnBars.proved
end Go.Proofs.Ytbhlmeghbfmgiaa
