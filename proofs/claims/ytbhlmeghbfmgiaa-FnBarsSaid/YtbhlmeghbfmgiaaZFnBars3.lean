/- FnBars, part 3 of 6: texts of the claim, joined into one file. -/
import Derived.Test.YtbhlmeghbfmgiaaZFnBars2

namespace Go.Proofs.Ytbhlmeghbfmgiaa.F
open Go.RowKit Go.Proofs.YtbhlmeghbfmgiaaW.PrintWords Go.Proofs.YtbhlmeghbfmgiaaW.PrintLast Go.Proofs.YtbhlmeghbfmgiaaW.PrintMore
attribute [local go_sem] max2_int min2_int max_two min_two max_three min_three max_four min_four
set_option linter.unusedVariables false
set_option linter.unusedSimpArgs false
def impl_IsMeter.f (a0_0 : Int) (a0_1 : Int) : Option (Bool) := (impl_InRange.f a0_0 1 12).bind fun t1302 => (if t1302 = true then (if a0_1 = 1 then (some true) else (if a0_1 = 2 then (some true) else (if a0_1 = 4 then (some true) else (some (a0_1 == 8))))) else (some false))
set_option maxHeartbeats 8000000 in
set_option maxRecDepth 100000 in
theorem impl_IsMeter.calls (a0_0 : Int) (a0_1 : Int) (r : Bool) (w : World) (h : impl_IsMeter.f a0_0 a0_1 = some r) :
  Calls Try.prog 55 #[.agg #[.int .i64 a0_0, .int .i64 a0_1]] w fun e w' => e = .returned (.bool r) ∧ Below w.heap.size w w' := by
 have hu73 := Try.underlying73
 have HB := Aside0.mk (Below.refl w.heap.size w)
 have H : ((impl_InRange.f a0_0 1 12).bind fun t1302 => (if t1302 = true then (if a0_1 = 1 then (some true) else (if a0_1 = 2 then (some true) else (if a0_1 = 4 then (some true) else (some (a0_1 == 8))))) else (some false))) = some r := h
 clear h
 replace H := Option.bind_eq_some_iff.mp H
 obtain ⟨t1302, A20, H⟩ := H
 try dsimp only at H
 have A2 := Aside0.mk A20
 clear A20
 by_cases c3 : t1302 = true
 ·
  subst c3
  rw [if_pos rfl] at H
  by_cases c4 : a0_1 = 1
  ·
   rw [if_pos c4] at H
   have c4b0 : (a0_1 == 1) = true := beq_iff_eq.mpr c4
   have c4b1 : (a0_1 != 1) = false := bne_eq_false_iff_eq.mpr c4
   clear c4
   obtain rfl := Option.some.inj H
   go_enter Try.func55, Try.ntmps55
   go_wp2_with (first | ((with_reducible refine gate_dst (N := 1) rfl ?_); refine box_event ?hg (N := 1) ?hd (cs := #[.int .i64 a0_0, .int .i64 a0_1]) (t := 73) ?hr ?_; (case hd => rfl); (case hg => rfl); (case hr => first | (go_simp; done) | (go_simp; rfl)); intro gb1301 hg w5 hbox hb; have n0_ := Aside0.mk (below_step (by repeat (first | (with_reducible first | exact HB.out | apply below_alloc | apply pw_below_drewN | apply below_drew1) | exact HB.out)) hb); have n1_ := Aside0.mk (hbox); have n2_ := Aside0.mk ((by rw [hg]; exact (below_size (by repeat (first | (with_reducible first | exact HB.out | apply below_alloc | apply pw_below_drewN | apply below_drew1) | exact HB.out))) : w.heap.size ≤ gb1301)); have n3_ := Aside0.mk ((by rw [hg]; exact (below_size (by repeat (first | (with_reducible first | exact HB.out | apply below_alloc | apply pw_below_drewN | apply below_drew1) | exact HB.out))) : w.heap.size ≤ gb1301)); clear HB; have HB := n0_; have BK1301 := n1_; have GW1301 := n2_; have GE1301 := n3_; clear n0_ n1_ n2_ n3_; clear hb hbox hg; have hcz6_0 : w5.cell? ⟨gb1301, 0, none⟩ = some (.int .i64 a0_0) := (blk_cell BK1301.out 0).trans rfl; have hcz6_1 : w5.cell? ⟨gb1301, 1, none⟩ = some (.int .i64 a0_1) := (blk_cell BK1301.out 1).trans rfl; have hfz6_0 := blk_frozen BK1301.out 0; have hfz6_1 := blk_frozen BK1301.out 1) | ((with_reducible refine gate_callee (f := 86) rfl ?_); refine goesL_ (some 5) rfl rfl Try.func86 (by kernel_rfl) rfl #[.int .i64 a0_0, .int .i64 1, .int .i64 12] rfl (by (try simp only [List.map_toArray, List.map_cons, List.map_nil]); first | done | rfl | (simp only [List.length_drop, List.length_take]; rfl)) ?_; (with_reducible refine (impl_InRange.calls a0_0 1 12 true _ A2.out).mono ?_); rintro e w' ⟨rfl, ⟨nd, rfl⟩⟩; refine ⟨_, rfl, ?_⟩))
   go_ret
   exact ⟨by first | rfl | (simp [errW_none, errW_some] <;> rfl) | (simp [*, errW_none, errW_some] <;> rfl), by repeat (first | (with_reducible first | exact HB.out | apply below_alloc | apply pw_below_drewN | apply below_drew1 | refine below_set ?_ GE1301.out) | exact HB.out)⟩
  ·
   rw [if_neg c4] at H
   have c4b0 : (a0_1 == 1) = false := beq_eq_false_iff_ne.mpr c4
   have c4b1 : (a0_1 != 1) = true := bne_iff_ne.mpr c4
   by_cases c7 : a0_1 = 2
   ·
    rw [if_pos c7] at H
    have c7b0 : (a0_1 == 2) = true := beq_iff_eq.mpr c7
    have c7b1 : (a0_1 != 2) = false := bne_eq_false_iff_eq.mpr c7
    clear c7
    obtain rfl := Option.some.inj H
    go_enter Try.func55, Try.ntmps55
    go_wp2_with (first | ((with_reducible refine gate_dst (N := 1) rfl ?_); refine box_event ?hg (N := 1) ?hd (cs := #[.int .i64 a0_0, .int .i64 a0_1]) (t := 73) ?hr ?_; (case hd => rfl); (case hg => rfl); (case hr => first | (go_simp; done) | (go_simp; rfl)); intro gb1301 hg w8 hbox hb; have n0_ := Aside0.mk (below_step (by repeat (first | (with_reducible first | exact HB.out | apply below_alloc | apply pw_below_drewN | apply below_drew1) | exact HB.out)) hb); have n1_ := Aside0.mk (hbox); have n2_ := Aside0.mk ((by rw [hg]; exact (below_size (by repeat (first | (with_reducible first | exact HB.out | apply below_alloc | apply pw_below_drewN | apply below_drew1) | exact HB.out))) : w.heap.size ≤ gb1301)); have n3_ := Aside0.mk ((by rw [hg]; exact (below_size (by repeat (first | (with_reducible first | exact HB.out | apply below_alloc | apply pw_below_drewN | apply below_drew1) | exact HB.out))) : w.heap.size ≤ gb1301)); clear HB; have HB := n0_; have BK1301 := n1_; have GW1301 := n2_; have GE1301 := n3_; clear n0_ n1_ n2_ n3_; clear hb hbox hg; have hcz9_0 : w8.cell? ⟨gb1301, 0, none⟩ = some (.int .i64 a0_0) := (blk_cell BK1301.out 0).trans rfl; have hcz9_1 : w8.cell? ⟨gb1301, 1, none⟩ = some (.int .i64 a0_1) := (blk_cell BK1301.out 1).trans rfl; have hfz9_0 := blk_frozen BK1301.out 0; have hfz9_1 := blk_frozen BK1301.out 1) | ((with_reducible refine gate_callee (f := 86) rfl ?_); refine goesL_ (some 5) rfl rfl Try.func86 (by kernel_rfl) rfl #[.int .i64 a0_0, .int .i64 1, .int .i64 12] rfl (by (try simp only [List.map_toArray, List.map_cons, List.map_nil]); first | done | rfl | (simp only [List.length_drop, List.length_take]; rfl)) ?_; (with_reducible refine (impl_InRange.calls a0_0 1 12 true _ A2.out).mono ?_); rintro e w' ⟨rfl, ⟨nd, rfl⟩⟩; refine ⟨_, rfl, ?_⟩))
    go_ret
    exact ⟨by first | rfl | (simp [errW_none, errW_some] <;> rfl) | (simp [*, errW_none, errW_some] <;> rfl), by repeat (first | (with_reducible first | exact HB.out | apply below_alloc | apply pw_below_drewN | apply below_drew1 | refine below_set ?_ GE1301.out) | exact HB.out)⟩
   ·
    rw [if_neg c7] at H
    have c7b0 : (a0_1 == 2) = false := beq_eq_false_iff_ne.mpr c7
    have c7b1 : (a0_1 != 2) = true := bne_iff_ne.mpr c7
    by_cases c10 : a0_1 = 4
    ·
     rw [if_pos c10] at H
     have c10b0 : (a0_1 == 4) = true := beq_iff_eq.mpr c10
     have c10b1 : (a0_1 != 4) = false := bne_eq_false_iff_eq.mpr c10
     clear c10
     obtain rfl := Option.some.inj H
     go_enter Try.func55, Try.ntmps55
     go_wp2_with (first | ((with_reducible refine gate_dst (N := 1) rfl ?_); refine box_event ?hg (N := 1) ?hd (cs := #[.int .i64 a0_0, .int .i64 a0_1]) (t := 73) ?hr ?_; (case hd => rfl); (case hg => rfl); (case hr => first | (go_simp; done) | (go_simp; rfl)); intro gb1301 hg w11 hbox hb; have n0_ := Aside0.mk (below_step (by repeat (first | (with_reducible first | exact HB.out | apply below_alloc | apply pw_below_drewN | apply below_drew1) | exact HB.out)) hb); have n1_ := Aside0.mk (hbox); have n2_ := Aside0.mk ((by rw [hg]; exact (below_size (by repeat (first | (with_reducible first | exact HB.out | apply below_alloc | apply pw_below_drewN | apply below_drew1) | exact HB.out))) : w.heap.size ≤ gb1301)); have n3_ := Aside0.mk ((by rw [hg]; exact (below_size (by repeat (first | (with_reducible first | exact HB.out | apply below_alloc | apply pw_below_drewN | apply below_drew1) | exact HB.out))) : w.heap.size ≤ gb1301)); clear HB; have HB := n0_; have BK1301 := n1_; have GW1301 := n2_; have GE1301 := n3_; clear n0_ n1_ n2_ n3_; clear hb hbox hg; have hcz12_0 : w11.cell? ⟨gb1301, 0, none⟩ = some (.int .i64 a0_0) := (blk_cell BK1301.out 0).trans rfl; have hcz12_1 : w11.cell? ⟨gb1301, 1, none⟩ = some (.int .i64 a0_1) := (blk_cell BK1301.out 1).trans rfl; have hfz12_0 := blk_frozen BK1301.out 0; have hfz12_1 := blk_frozen BK1301.out 1) | ((with_reducible refine gate_callee (f := 86) rfl ?_); refine goesL_ (some 5) rfl rfl Try.func86 (by kernel_rfl) rfl #[.int .i64 a0_0, .int .i64 1, .int .i64 12] rfl (by (try simp only [List.map_toArray, List.map_cons, List.map_nil]); first | done | rfl | (simp only [List.length_drop, List.length_take]; rfl)) ?_; (with_reducible refine (impl_InRange.calls a0_0 1 12 true _ A2.out).mono ?_); rintro e w' ⟨rfl, ⟨nd, rfl⟩⟩; refine ⟨_, rfl, ?_⟩))
     go_ret
     exact ⟨by first | rfl | (simp [errW_none, errW_some] <;> rfl) | (simp [*, errW_none, errW_some] <;> rfl), by repeat (first | (with_reducible first | exact HB.out | apply below_alloc | apply pw_below_drewN | apply below_drew1 | refine below_set ?_ GE1301.out) | exact HB.out)⟩
    ·
     rw [if_neg c10] at H
     have c10b0 : (a0_1 == 4) = false := beq_eq_false_iff_ne.mpr c10
     have c10b1 : (a0_1 != 4) = true := bne_iff_ne.mpr c10
     obtain rfl := Option.some.inj H
     go_enter Try.func55, Try.ntmps55
     go_wp2_with (first | ((with_reducible refine gate_dst (N := 1) rfl ?_); refine box_event ?hg (N := 1) ?hd (cs := #[.int .i64 a0_0, .int .i64 a0_1]) (t := 73) ?hr ?_; (case hd => rfl); (case hg => rfl); (case hr => first | (go_simp; done) | (go_simp; rfl)); intro gb1301 hg w13 hbox hb; have n0_ := Aside0.mk (below_step (by repeat (first | (with_reducible first | exact HB.out | apply below_alloc | apply pw_below_drewN | apply below_drew1) | exact HB.out)) hb); have n1_ := Aside0.mk (hbox); have n2_ := Aside0.mk ((by rw [hg]; exact (below_size (by repeat (first | (with_reducible first | exact HB.out | apply below_alloc | apply pw_below_drewN | apply below_drew1) | exact HB.out))) : w.heap.size ≤ gb1301)); have n3_ := Aside0.mk ((by rw [hg]; exact (below_size (by repeat (first | (with_reducible first | exact HB.out | apply below_alloc | apply pw_below_drewN | apply below_drew1) | exact HB.out))) : w.heap.size ≤ gb1301)); clear HB; have HB := n0_; have BK1301 := n1_; have GW1301 := n2_; have GE1301 := n3_; clear n0_ n1_ n2_ n3_; clear hb hbox hg; have hcz14_0 : w13.cell? ⟨gb1301, 0, none⟩ = some (.int .i64 a0_0) := (blk_cell BK1301.out 0).trans rfl; have hcz14_1 : w13.cell? ⟨gb1301, 1, none⟩ = some (.int .i64 a0_1) := (blk_cell BK1301.out 1).trans rfl; have hfz14_0 := blk_frozen BK1301.out 0; have hfz14_1 := blk_frozen BK1301.out 1) | ((with_reducible refine gate_callee (f := 86) rfl ?_); refine goesL_ (some 5) rfl rfl Try.func86 (by kernel_rfl) rfl #[.int .i64 a0_0, .int .i64 1, .int .i64 12] rfl (by (try simp only [List.map_toArray, List.map_cons, List.map_nil]); first | done | rfl | (simp only [List.length_drop, List.length_take]; rfl)) ?_; (with_reducible refine (impl_InRange.calls a0_0 1 12 true _ A2.out).mono ?_); rintro e w' ⟨rfl, ⟨nd, rfl⟩⟩; refine ⟨_, rfl, ?_⟩))
     go_ret
     exact ⟨by first | rfl | (simp [errW_none, errW_some] <;> rfl) | (simp [*, errW_none, errW_some] <;> rfl), by repeat (first | (with_reducible first | exact HB.out | apply below_alloc | apply pw_below_drewN | apply below_drew1 | refine below_set ?_ GE1301.out) | exact HB.out)⟩
 ·
  replace c3 := Bool.eq_false_iff.mpr c3
  subst c3
  rw [if_neg (show ¬ (false = true) by decide)] at H
  obtain rfl := Option.some.inj H
  go_enter Try.func55, Try.ntmps55
  go_wp2_with (first | ((with_reducible refine gate_dst (N := 1) rfl ?_); refine box_event ?hg (N := 1) ?hd (cs := #[.int .i64 a0_0, .int .i64 a0_1]) (t := 73) ?hr ?_; (case hd => rfl); (case hg => rfl); (case hr => first | (go_simp; done) | (go_simp; rfl)); intro gb1301 hg w15 hbox hb; have n0_ := Aside0.mk (below_step (by repeat (first | (with_reducible first | exact HB.out | apply below_alloc | apply pw_below_drewN | apply below_drew1) | exact HB.out)) hb); have n1_ := Aside0.mk (hbox); have n2_ := Aside0.mk ((by rw [hg]; exact (below_size (by repeat (first | (with_reducible first | exact HB.out | apply below_alloc | apply pw_below_drewN | apply below_drew1) | exact HB.out))) : w.heap.size ≤ gb1301)); have n3_ := Aside0.mk ((by rw [hg]; exact (below_size (by repeat (first | (with_reducible first | exact HB.out | apply below_alloc | apply pw_below_drewN | apply below_drew1) | exact HB.out))) : w.heap.size ≤ gb1301)); clear HB; have HB := n0_; have BK1301 := n1_; have GW1301 := n2_; have GE1301 := n3_; clear n0_ n1_ n2_ n3_; clear hb hbox hg; have hcz16_0 : w15.cell? ⟨gb1301, 0, none⟩ = some (.int .i64 a0_0) := (blk_cell BK1301.out 0).trans rfl; have hcz16_1 : w15.cell? ⟨gb1301, 1, none⟩ = some (.int .i64 a0_1) := (blk_cell BK1301.out 1).trans rfl; have hfz16_0 := blk_frozen BK1301.out 0; have hfz16_1 := blk_frozen BK1301.out 1) | ((with_reducible refine gate_callee (f := 86) rfl ?_); refine goesL_ (some 5) rfl rfl Try.func86 (by kernel_rfl) rfl #[.int .i64 a0_0, .int .i64 1, .int .i64 12] rfl (by (try simp only [List.map_toArray, List.map_cons, List.map_nil]); first | done | rfl | (simp only [List.length_drop, List.length_take]; rfl)) ?_; (with_reducible refine (impl_InRange.calls a0_0 1 12 false _ A2.out).mono ?_); rintro e w' ⟨rfl, ⟨nd, rfl⟩⟩; refine ⟨_, rfl, ?_⟩))
  go_ret
  exact ⟨by first | rfl | (simp [errW_none, errW_some] <;> rfl) | (simp [*, errW_none, errW_some] <;> rfl), by repeat (first | (with_reducible first | exact HB.out | apply below_alloc | apply pw_below_drewN | apply below_drew1 | refine below_set ?_ GE1301.out) | exact HB.out)⟩
end Go.Proofs.Ytbhlmeghbfmgiaa.F

namespace Go.Proofs.Ytbhlmeghbfmgiaa.F
open Go.RowKit Go.Proofs.YtbhlmeghbfmgiaaW.PrintWords Go.Proofs.YtbhlmeghbfmgiaaW.PrintLast Go.Proofs.YtbhlmeghbfmgiaaW.PrintMore
attribute [local go_sem] max2_int min2_int max_two min_two max_three min_three max_four min_four
set_option linter.unusedVariables false
set_option linter.unusedSimpArgs false
def impl_Meter_beat.f (a0_0 : Int) (a0_1 : Int) : Option (Int) := if a0_1 = 0 then (none) else (some (wrap64 (Int.tdiv 48 a0_1)))
set_option maxHeartbeats 8000000 in
set_option maxRecDepth 100000 in
theorem impl_Meter_beat.calls (a0_0 : Int) (a0_1 : Int) (r : Int) (w : World) (h : impl_Meter_beat.f a0_0 a0_1 = some r) :
  Calls Try.prog 114 #[.agg #[.int .i64 a0_0, .int .i64 a0_1]] w fun e w' => e = .returned (.int .i64 r) ∧ Below w.heap.size w w' := by
 have hu := Try.underlying73
 have HB := Aside0.mk (Below.refl w.heap.size w)
 have H : (if a0_1 = 0 then (none) else (some (wrap64 (Int.tdiv 48 a0_1)))) = some r := h
 clear h
 by_cases c2 : a0_1 = 0
 ·
  rw [if_pos c2] at H
  exact absurd H (by simp)
 ·
  rw [if_neg c2] at H
  have c2b0 : (a0_1 == 0) = false := beq_eq_false_iff_ne.mpr c2
  have c2b1 : (a0_1 != 0) = true := bne_iff_ne.mpr c2
  obtain rfl := Option.some.inj H
  go_enter Try.func114, Try.ntmps114
  go_wp2_with (first | ((with_reducible refine gate_dst (N := 1) rfl ?_); refine box_event ?hg (N := 1) ?hd (cs := #[.int .i64 a0_0, .int .i64 a0_1]) (t := 73) ?hr ?_; (case hd => rfl); (case hg => rfl); (case hr => first | (go_simp; done) | (go_simp; rfl)); intro g hg w3 hbox hb; have n0_ := Aside0.mk (below_step HB.out hb); have n1_ := Aside0.mk (hbox); clear HB; have HB := n0_; have BK := n1_; clear n0_ n1_; clear hb hbox hg; have hc0 : w3.cell? ⟨g, 0, none⟩ = some (.int .i64 a0_0) := (blk_cell BK.out 0).trans rfl; have hc1 : w3.cell? ⟨g, 1, none⟩ = some (.int .i64 a0_1) := (blk_cell BK.out 1).trans rfl; have hf0 := blk_frozen BK.out 0; have hf1 := blk_frozen BK.out 1))
  go_ret
  exact ⟨rfl, HB.out⟩
end Go.Proofs.Ytbhlmeghbfmgiaa.F

namespace Go.Proofs.Ytbhlmeghbfmgiaa.F
open Go.RowKit Go.Proofs.YtbhlmeghbfmgiaaW.PrintWords Go.Proofs.YtbhlmeghbfmgiaaW.PrintLast Go.Proofs.YtbhlmeghbfmgiaaW.PrintMore
attribute [local go_sem] max2_int min2_int max_two min_two max_three min_three max_four min_four
set_option linter.unusedVariables false
set_option linter.unusedSimpArgs false
def impl_BarLong.f (a0_0 : Int) (a0_1 : Int) : Option (Int) := (impl_IsMeter.f a0_0 a0_1).bind fun t1305 => (if t1305 = true then ((impl_Meter_beat.f a0_0 a0_1).bind fun t1306 => (some (wrap64 (a0_0 * t1306)))) else (some 0))
set_option maxHeartbeats 8000000 in
set_option maxRecDepth 100000 in
theorem impl_BarLong.calls (a0_0 : Int) (a0_1 : Int) (r : Int) (w : World) (h : impl_BarLong.f a0_0 a0_1 = some r) :
  Calls Try.prog 52 #[.agg #[.int .i64 a0_0, .int .i64 a0_1]] w fun e w' => e = .returned (.int .i64 r) ∧ Below w.heap.size w w' := by
 have hu73 := Try.underlying73
 have HB := Aside0.mk (Below.refl w.heap.size w)
 have H : ((impl_IsMeter.f a0_0 a0_1).bind fun t1305 => (if t1305 = true then ((impl_Meter_beat.f a0_0 a0_1).bind fun t1306 => (some (wrap64 (a0_0 * t1306)))) else (some 0))) = some r := h
 clear h
 replace H := Option.bind_eq_some_iff.mp H
 obtain ⟨t1305, A20, H⟩ := H
 try dsimp only at H
 have A2 := Aside0.mk A20
 clear A20
 by_cases c3 : t1305 = true
 ·
  subst c3
  rw [if_pos rfl] at H
  replace H := Option.bind_eq_some_iff.mp H
  obtain ⟨t1306, A40, H⟩ := H
  try dsimp only at H
  have A4 := Aside0.mk A40
  clear A40
  obtain rfl := Option.some.inj H
  go_enter Try.func52, Try.ntmps52
  try go_wp2_with (first | ((with_reducible refine gate_dst (N := 1) rfl ?_); refine box_event ?hg (N := 1) ?hd (cs := #[.int .i64 a0_0, .int .i64 a0_1]) (t := 73) ?hr ?_; (case hd => rfl); (case hg => rfl); (case hr => first | (go_simp; done) | (go_simp; rfl)); intro gb1304 hg w5 hbox hb; have n0_ := Aside0.mk (below_step (by repeat (first | (with_reducible first | exact HB.out | apply below_alloc | apply pw_below_drewN | apply below_drew1) | exact HB.out)) hb); have n1_ := Aside0.mk (hbox); have n2_ := Aside0.mk ((by rw [hg]; exact (below_size (by repeat (first | (with_reducible first | exact HB.out | apply below_alloc | apply pw_below_drewN | apply below_drew1) | exact HB.out))) : w.heap.size ≤ gb1304)); have n3_ := Aside0.mk ((by rw [hg]; exact (below_size (by repeat (first | (with_reducible first | exact HB.out | apply below_alloc | apply pw_below_drewN | apply below_drew1) | exact HB.out))) : w.heap.size ≤ gb1304)); clear HB; have HB := n0_; have BK1304 := n1_; have GW1304 := n2_; have GE1304 := n3_; clear n0_ n1_ n2_ n3_; clear hb hbox hg; have hcz6_0 : w5.cell? ⟨gb1304, 0, none⟩ = some (.int .i64 a0_0) := (blk_cell BK1304.out 0).trans rfl; have hcz6_1 : w5.cell? ⟨gb1304, 1, none⟩ = some (.int .i64 a0_1) := (blk_cell BK1304.out 1).trans rfl; have hfz6_0 := blk_frozen BK1304.out 0; have hfz6_1 := blk_frozen BK1304.out 1) | ((with_reducible refine gate_callee (f := 55) rfl ?_); refine goesL_ (some 4) rfl rfl Try.func55 (by kernel_rfl) rfl #[.agg #[.int .i64 a0_0, .int .i64 a0_1]] rfl (by (try simp only [List.map_toArray, List.map_cons, List.map_nil]); first | done | rfl | (simp only [List.length_drop, List.length_take]; rfl)) ?_; (with_reducible refine (impl_IsMeter.calls a0_0 a0_1 true _ A2.out).mono ?_); rintro e w7 ⟨rfl, hb⟩; refine ⟨_, rfl, ?_⟩; have n0_ := Aside0.mk (blk_below (g := gb1304) (o := .cells #[.int .i64 a0_0, .int .i64 a0_1] 73 (0, 0)) (by (with_reducible repeat (first | refine blk_drewN ?_ _ | refine blk_drew ?_ | refine blk_alloc ?_ _)); exact BK1304.out) hb); have n1_ := Aside0.mk (below_step (by repeat (first | (with_reducible first | exact HB.out | apply below_alloc | apply pw_below_drewN | apply below_drew1 | refine below_set ?_ GE1304.out) | exact HB.out)) hb); clear BK1304; clear HB; have BK1304 := n0_; have HB := n1_; clear n0_ n1_; (try clear hb); (try clear hb2); (try clear hk); (try clear hi)))
  have n0_ := Aside0.mk (blk_drew BK1304.out)
  have n1_ := Aside0.mk (below_drew1 HB.out)
  clear BK1304
  clear HB
  have BK1304 := n0_
  have HB := n1_
  clear n0_ n1_
  refine BelowW.region (by kernel_rfl) (by kernel_rfl) ?_
  have hq0_ : w7.drew.cell? ⟨gb1304, 0, none⟩ = some (.int .i64 a0_0) := (blk_cell BK1304.out 0).trans rfl
  have hq1_ : w7.drew.cell? ⟨gb1304, 1, none⟩ = some (.int .i64 a0_1) := (blk_cell BK1304.out 1).trans rfl
  generalize w7.drew = w8 at BK1304 HB hq0_ hq1_ ⊢
  replace hq0_ := BelowW.at hq0_
  replace hq1_ := BelowW.at hq1_
  change wpQuiet _ _ _ _ (List.cons _ _) _
  repeat (go_big_quiet_step (first | (go_at_call 114; (with_reducible refine (impl_Meter_beat.calls a0_0 a0_1 t1306 _ A4.out).mono ?_); exact fun _ _ h_ => ⟨h_.1, BelowW.step _ h_.2⟩)))
  refine wpQuiet_nil ?_
  intro w9 hb
  try simp only [i64_w, i32_w]
  clear hq0_ hq1_
  have n0_ := Aside0.mk (blk_below (g := gb1304) (o := .cells #[.int .i64 a0_0, .int .i64 a0_1] 73 (0, 0)) (by (with_reducible repeat (first | refine blk_drewN ?_ _ | refine blk_drew ?_ | refine blk_alloc ?_ _)); exact BK1304.out) hb)
  have n1_ := Aside0.mk (below_step (by repeat (first | (with_reducible first | exact HB.out | apply below_alloc | apply pw_below_drewN | apply below_drew1 | refine below_set ?_ GE1304.out) | exact HB.out)) hb)
  clear BK1304
  clear HB
  have BK1304 := n0_
  have HB := n1_
  clear n0_ n1_
  (try clear hb)
  (try clear hb2)
  (try clear hk)
  (try clear hi)
  try go_wp2
  go_ret
  exact ⟨by first | rfl | (simp [errW_none, errW_some] <;> rfl) | (simp [*, errW_none, errW_some] <;> rfl), by repeat (first | (with_reducible first | exact HB.out | apply below_alloc | apply pw_below_drewN | apply below_drew1 | refine below_set ?_ GE1304.out) | exact HB.out)⟩
 ·
  replace c3 := Bool.eq_false_iff.mpr c3
  subst c3
  rw [if_neg (show ¬ (false = true) by decide)] at H
  obtain rfl := Option.some.inj H
  go_enter Try.func52, Try.ntmps52
  go_wp2_with (first | ((with_reducible refine gate_dst (N := 1) rfl ?_); refine box_event ?hg (N := 1) ?hd (cs := #[.int .i64 a0_0, .int .i64 a0_1]) (t := 73) ?hr ?_; (case hd => rfl); (case hg => rfl); (case hr => first | (go_simp; done) | (go_simp; rfl)); intro gb1304 hg w10 hbox hb; have n0_ := Aside0.mk (below_step (by repeat (first | (with_reducible first | exact HB.out | apply below_alloc | apply pw_below_drewN | apply below_drew1) | exact HB.out)) hb); have n1_ := Aside0.mk (hbox); have n2_ := Aside0.mk ((by rw [hg]; exact (below_size (by repeat (first | (with_reducible first | exact HB.out | apply below_alloc | apply pw_below_drewN | apply below_drew1) | exact HB.out))) : w.heap.size ≤ gb1304)); have n3_ := Aside0.mk ((by rw [hg]; exact (below_size (by repeat (first | (with_reducible first | exact HB.out | apply below_alloc | apply pw_below_drewN | apply below_drew1) | exact HB.out))) : w.heap.size ≤ gb1304)); clear HB; have HB := n0_; have BK1304 := n1_; have GW1304 := n2_; have GE1304 := n3_; clear n0_ n1_ n2_ n3_; clear hb hbox hg; have hcz11_0 : w10.cell? ⟨gb1304, 0, none⟩ = some (.int .i64 a0_0) := (blk_cell BK1304.out 0).trans rfl; have hcz11_1 : w10.cell? ⟨gb1304, 1, none⟩ = some (.int .i64 a0_1) := (blk_cell BK1304.out 1).trans rfl; have hfz11_0 := blk_frozen BK1304.out 0; have hfz11_1 := blk_frozen BK1304.out 1) | ((with_reducible refine gate_callee (f := 55) rfl ?_); refine goesL_ (some 4) rfl rfl Try.func55 (by kernel_rfl) rfl #[.agg #[.int .i64 a0_0, .int .i64 a0_1]] rfl (by (try simp only [List.map_toArray, List.map_cons, List.map_nil]); first | done | rfl | (simp only [List.length_drop, List.length_take]; rfl)) ?_; (with_reducible refine (impl_IsMeter.calls a0_0 a0_1 false _ A2.out).mono ?_); rintro e w12 ⟨rfl, hb⟩; refine ⟨_, rfl, ?_⟩; have n0_ := Aside0.mk (blk_below (g := gb1304) (o := .cells #[.int .i64 a0_0, .int .i64 a0_1] 73 (0, 0)) (by (with_reducible repeat (first | refine blk_drewN ?_ _ | refine blk_drew ?_ | refine blk_alloc ?_ _)); exact BK1304.out) hb); have n1_ := Aside0.mk (below_step (by repeat (first | (with_reducible first | exact HB.out | apply below_alloc | apply pw_below_drewN | apply below_drew1 | refine below_set ?_ GE1304.out) | exact HB.out)) hb); clear BK1304; clear HB; have BK1304 := n0_; have HB := n1_; clear n0_ n1_; (try clear hb); (try clear hb2); (try clear hk); (try clear hi)))
  go_ret
  exact ⟨by first | rfl | (simp [errW_none, errW_some] <;> rfl) | (simp [*, errW_none, errW_some] <;> rfl), by repeat (first | (with_reducible first | exact HB.out | apply below_alloc | apply pw_below_drewN | apply below_drew1 | refine below_set ?_ GE1304.out) | exact HB.out)⟩
end Go.Proofs.Ytbhlmeghbfmgiaa.F

namespace Go.Proofs.Ytbhlmeghbfmgiaa.F
open Go.RowKit Go.Proofs.YtbhlmeghbfmgiaaW.PrintWords Go.Proofs.YtbhlmeghbfmgiaaW.PrintLast Go.Proofs.YtbhlmeghbfmgiaaW.PrintMore
attribute [local go_sem] max2_int min2_int max_two min_two max_three min_three max_four min_four
set_option linter.unusedVariables false
set_option linter.unusedSimpArgs false
def impl_PlaceOf.j0 : Nat → Int → Bool → Int → Int → Option (Int × Int × Int)
 | 0, _, _, _, _ => none
 | k + 1, x1, x15, x1308000, x1308001 => if x15 = true then (some (0, 0, 0)) else ((impl_BarLong.f x1308000 x1308001).bind fun t1310 => (if t1310 = 0 then (none) else ((impl_Meter_beat.f x1308000 x1308001).bind fun t1311 => (if t1311 = 0 then (none) else ((impl_Meter_beat.f x1308000 x1308001).bind fun t1312 => (if t1312 = 0 then (none) else (some (wrap64 ((wrap64 (Int.tdiv x1 t1310)) + 1), wrap64 ((wrap64 (Int.tdiv (Int.tmod x1 t1310) t1311)) + 1), Int.tmod (Int.tmod x1 t1310) t1312))))))))
def impl_PlaceOf.f (k : Nat) (a0_0 : Int) (a0_1 : Int) (a1 : Int) : Option (Int × Int × Int) := (impl_IsMeter.f a0_0 a0_1).bind fun t1308 => (if t1308 = true then ((impl_InRange.f a1 0 2000).bind fun t1309 => (impl_PlaceOf.j0 k a1 (!t1309) a0_0 a0_1)) else (impl_PlaceOf.j0 k a1 true a0_0 a0_1))
def impl_PlaceOf.T4 : Bool × List (List Nat × List Nat) := (true, [([], []), ([], []), ([0, 1], [0, 1]), ([2], [2]), ([], []), ([], []), ([4, 5], [4, 5]), ([], []), ([7], [7]), ([6, 8], [6, 8]), ([9], [9]), ([], []), ([], []), ([11, 12], [11, 12]), ([], []), ([14, 8], [14]), ([13, 15], [13, 15]), ([3, 15, 0, 1, 2, 3], [3]), ([10, 17, 0, 1, 2, 3, 4, 5, 6, 7, 8, 9, 10, 17], [10]), ([16, 18, 0, 1, 2, 3, 4, 5, 6, 7, 8, 9, 10, 11, 12, 13, 14, 15, 16, 17, 18], [16])])
def impl_PlaceOf.B4 : List Nat := [0, 0, 3, 7, 0, 0, 48, 0, 128, 496, 1008, 0, 0, 6144, 0, 16768, 63872, 49551, 182271, 524287]
theorem impl_PlaceOf.tab4 : rtab .any (opsOf Try.f46 4) = impl_PlaceOf.T4 := by kernel_rfl
theorem impl_PlaceOf.bits4 : waitsOk impl_PlaceOf.T4.2 impl_PlaceOf.B4 = true := by kernel_rfl
set_option maxHeartbeats 8000000 in
set_option maxRecDepth 100000 in
theorem impl_PlaceOf.calls (k : Nat) (a0_0 : Int) (a0_1 : Int) (a1 : Int) (r1 : Int) (r2 : Int) (r3 : Int) (w : World) (h : impl_PlaceOf.f k a0_0 a0_1 a1 = some (r1, r2, r3)) :
  Calls Try.prog 46 #[.agg #[.int .i64 a0_0, .int .i64 a0_1], .int .i64 a1] w fun e w' => e = .returned (.tuple #[.int .i64 r1, .int .i64 r2, .int .i64 r3]) ∧ Below w.heap.size w w' := by
 have hu73 := Try.underlying73
 have HB := Aside0.mk (Below.refl w.heap.size w)
 have H : ((impl_IsMeter.f a0_0 a0_1).bind fun t1308 => (if t1308 = true then ((impl_InRange.f a1 0 2000).bind fun t1309 => (impl_PlaceOf.j0 k a1 (!t1309) a0_0 a0_1)) else (impl_PlaceOf.j0 k a1 true a0_0 a0_1))) = some (r1, r2, r3) := h
 clear h
 have HC3 := Aside0.mk H
 clear H
 go_enter Try.func46, Try.ntmps46
 go_upto_region 1 with (first | ((with_reducible refine gate_dst (N := 2) rfl ?_); refine box_event ?hg (N := 2) ?hd (cs := #[.int .i64 a0_0, .int .i64 a0_1]) (t := 73) ?hr ?_; (case hd => rfl); (case hg => rfl); (case hr => first | (go_simp; done) | (go_simp; rfl)); intro gb1307 hg w4 hbox hb; have n0_ := Aside0.mk (below_step (by repeat (first | (with_reducible first | exact HB.out | apply below_alloc | apply pw_below_drewN | apply below_drew1) | exact HB.out)) hb); have n1_ := Aside0.mk (hbox); have n2_ := Aside0.mk ((by rw [hg]; exact (below_size (by repeat (first | (with_reducible first | exact HB.out | apply below_alloc | apply pw_below_drewN | apply below_drew1) | exact HB.out))) : w.heap.size ≤ gb1307)); have n3_ := Aside0.mk ((by rw [hg]; exact (below_size (by repeat (first | (with_reducible first | exact HB.out | apply below_alloc | apply pw_below_drewN | apply below_drew1) | exact HB.out))) : w.heap.size ≤ gb1307)); clear HB; have HB := n0_; have BK1307 := n1_; have GW1307 := n2_; have GE1307 := n3_; clear n0_ n1_ n2_ n3_; clear hb hbox hg))
 (try simp only [Act.put, List.setIfInBounds_toArray, List.set_cons_zero, List.set_cons_succ])
 go_cut [15] (fun v15 wc => ∃ (kq : Nat) (x15_2 : Bool), v15 = .bool x15_2 ∧ Aside0 (impl_PlaceOf.j0 kq a1 x15_2 a0_0 a0_1 = some (r1, r2, r3)) ∧ Aside0 (kq ≤ k) ∧ Aside0 (wc.heap[gb1307]? = some (.cells #[.int .i64 a0_0, .int .i64 a0_1] 73 (0, 0))) ∧ Aside0 (Below w.heap.size w wc))
 case first =>
  have H := HC3.out
  clear HC3
  replace H := Option.bind_eq_some_iff.mp H
  obtain ⟨t1308, A50, H⟩ := H
  try dsimp only at H
  have A5 := Aside0.mk A50
  clear A50
  by_cases c6 : t1308 = true
  ·
   subst c6
   rw [if_pos rfl] at H
   replace H := Option.bind_eq_some_iff.mp H
   obtain ⟨t1309, A70, H⟩ := H
   try dsimp only at H
   have A7 := Aside0.mk A70
   clear A70
   have H' := Aside0.mk H
   clear H
   have hcz8_0 : w4.cell? ⟨gb1307, 0, none⟩ = some (.int .i64 a0_0) := (blk_cell BK1307.out 0).trans rfl
   have hcz8_1 : w4.cell? ⟨gb1307, 1, none⟩ = some (.int .i64 a0_1) := (blk_cell BK1307.out 1).trans rfl
   have hfz8_0 := blk_frozen BK1307.out 0
   have hfz8_1 := blk_frozen BK1307.out 1
   go_wp2_with (first | ((with_reducible refine gate_callee (f := 55) rfl ?_); refine goesL_ (some 9) rfl rfl Try.func55 (by kernel_rfl) rfl #[.agg #[.int .i64 a0_0, .int .i64 a0_1]] rfl (by (try simp only [List.map_toArray, List.map_cons, List.map_nil]); first | done | rfl | (simp only [List.length_drop, List.length_take]; rfl)) ?_; (with_reducible refine (impl_IsMeter.calls a0_0 a0_1 true _ A5.out).mono ?_); rintro e w9 ⟨rfl, hb⟩; refine ⟨_, rfl, ?_⟩; have n0_ := Aside0.mk (blk_below (g := gb1307) (o := .cells #[.int .i64 a0_0, .int .i64 a0_1] 73 (0, 0)) (by (with_reducible repeat (first | refine blk_drewN ?_ _ | refine blk_drew ?_ | refine blk_alloc ?_ _)); exact BK1307.out) hb); have n1_ := Aside0.mk (below_step (by repeat (first | (with_reducible first | exact HB.out | apply below_alloc | apply pw_below_drewN | apply below_drew1 | refine below_set ?_ GE1307.out) | exact HB.out)) hb); clear BK1307; clear HB; have BK1307 := n0_; have HB := n1_; clear n0_ n1_; (try clear hb); (try clear hb2); (try clear hk); (try clear hi)) | (go_at_call 86; (with_reducible refine (impl_InRange.calls a1 0 2000 t1309 _ A7.out).mono ?_); rintro e w' ⟨rfl, ⟨nd, rfl⟩⟩))
   go_meet
   case rel => exact ⟨_, (!t1309), (by first | rfl | (simp; done) | (simp [*]; done)), H', ⟨by first | omega | exact Nat.le_refl _⟩, ⟨by (with_reducible repeat (first | refine blk_drewN ?_ _ | refine blk_drew ?_ | refine blk_alloc ?_ _)); exact BK1307.out⟩, ⟨by repeat (first | (with_reducible first | exact HB.out | apply below_alloc | apply pw_below_drewN | apply below_drew1 | refine below_set ?_ GE1307.out) | exact HB.out)⟩⟩
  ·
   replace c6 := Bool.eq_false_iff.mpr c6
   subst c6
   rw [if_neg (show ¬ (false = true) by decide)] at H
   have H' := Aside0.mk H
   clear H
   have hcz10_0 : w4.cell? ⟨gb1307, 0, none⟩ = some (.int .i64 a0_0) := (blk_cell BK1307.out 0).trans rfl
   have hcz10_1 : w4.cell? ⟨gb1307, 1, none⟩ = some (.int .i64 a0_1) := (blk_cell BK1307.out 1).trans rfl
   have hfz10_0 := blk_frozen BK1307.out 0
   have hfz10_1 := blk_frozen BK1307.out 1
   go_wp2_with (first | ((with_reducible refine gate_callee (f := 55) rfl ?_); refine goesL_ (some 9) rfl rfl Try.func55 (by kernel_rfl) rfl #[.agg #[.int .i64 a0_0, .int .i64 a0_1]] rfl (by (try simp only [List.map_toArray, List.map_cons, List.map_nil]); first | done | rfl | (simp only [List.length_drop, List.length_take]; rfl)) ?_; (with_reducible refine (impl_IsMeter.calls a0_0 a0_1 false _ A5.out).mono ?_); rintro e w11 ⟨rfl, hb⟩; refine ⟨_, rfl, ?_⟩; have n0_ := Aside0.mk (blk_below (g := gb1307) (o := .cells #[.int .i64 a0_0, .int .i64 a0_1] 73 (0, 0)) (by (with_reducible repeat (first | refine blk_drewN ?_ _ | refine blk_drew ?_ | refine blk_alloc ?_ _)); exact BK1307.out) hb); have n1_ := Aside0.mk (below_step (by repeat (first | (with_reducible first | exact HB.out | apply below_alloc | apply pw_below_drewN | apply below_drew1 | refine below_set ?_ GE1307.out) | exact HB.out)) hb); clear BK1307; clear HB; have BK1307 := n0_; have HB := n1_; clear n0_ n1_; (try clear hb); (try clear hb2); (try clear hk); (try clear hi)))
   go_meet
   case rel => exact ⟨_, (true), (by first | rfl | (simp; done) | (simp [*]; done)), H', ⟨by first | omega | exact Nat.le_refl _⟩, ⟨by (with_reducible repeat (first | refine blk_drewN ?_ _ | refine blk_drew ?_ | refine blk_alloc ?_ _)); exact BK1307.out⟩, ⟨by repeat (first | (with_reducible first | exact HB.out | apply below_alloc | apply pw_below_drewN | apply below_drew1 | refine below_set ?_ GE1307.out) | exact HB.out)⟩⟩
 case rest =>
  clear HC3
  try clear p2
  try clear c4
  try clear c5
  try clear c6
  try clear hcz10_0
  try clear hcz10_1
  try clear hcz8_0
  try clear hcz8_1
  try clear hfz10_0
  try clear hfz10_1
  try clear hfz8_0
  try clear hfz8_1
  obtain ⟨kq, x15_2, rfl, HA, HJ2, BK1307, HB⟩ := hcut
  cases kq with
  | zero => exact absurd HA.out (by simp [impl_PlaceOf.j0])
  | succ kj2 =>
   have H := HA.out
   clear HA
   simp only [impl_PlaceOf.j0] at H
   by_cases c12 : x15_2 = true
   ·
    subst c12
    rw [if_pos rfl] at H
    simp only [Option.some.injEq, Prod.mk.injEq] at H
    obtain ⟨rfl, rfl, rfl⟩ := H
    go_wp2
    go_ret3
    exact ⟨by first | rfl | (simp [errW_none, errW_some] <;> rfl) | (simp [*, errW_none, errW_some] <;> rfl), by repeat (first | (with_reducible first | exact HB.out | apply below_alloc | apply pw_below_drewN | apply below_drew1 | refine below_set ?_ GE1307.out) | exact HB.out)⟩
   ·
    replace c12 := Bool.eq_false_iff.mpr c12
    subst c12
    rw [if_neg (show ¬ (false = true) by decide)] at H
    replace H := Option.bind_eq_some_iff.mp H
    obtain ⟨t1310, A130, H⟩ := H
    try dsimp only at H
    have A13 := Aside0.mk A130
    clear A130
    by_cases c14 : t1310 = 0
    ·
     rw [if_pos c14] at H
     exact absurd H (by simp)
    ·
     rw [if_neg c14] at H
     have c14b0 : (t1310 == 0) = false := beq_eq_false_iff_ne.mpr c14
     have c14b1 : (t1310 != 0) = true := bne_iff_ne.mpr c14
     replace H := Option.bind_eq_some_iff.mp H
     obtain ⟨t1311, A150, H⟩ := H
     try dsimp only at H
     have A15 := Aside0.mk A150
     clear A150
     by_cases c16 : t1311 = 0
     ·
      rw [if_pos c16] at H
      exact absurd H (by simp)
     ·
      rw [if_neg c16] at H
      have c16b0 : (t1311 == 0) = false := beq_eq_false_iff_ne.mpr c16
      have c16b1 : (t1311 != 0) = true := bne_iff_ne.mpr c16
      replace H := Option.bind_eq_some_iff.mp H
      obtain ⟨t1312, A170, H⟩ := H
      try dsimp only at H
      have A17 := Aside0.mk A170
      clear A170
      by_cases c18 : t1312 = 0
      ·
       rw [if_pos c18] at H
       exact absurd H (by simp)
      ·
       rw [if_neg c18] at H
       have c18b0 : (t1312 == 0) = false := beq_eq_false_iff_ne.mpr c18
       have c18b1 : (t1312 != 0) = true := bne_iff_ne.mpr c18
       simp only [Option.some.injEq, Prod.mk.injEq] at H
       obtain ⟨rfl, rfl, rfl⟩ := H
       have hcz19_0 : wc.cell? ⟨gb1307, 0, none⟩ = some (.int .i64 a0_0) := (blk_cell BK1307.out 0).trans rfl
       have hcz19_1 : wc.cell? ⟨gb1307, 1, none⟩ = some (.int .i64 a0_1) := (blk_cell BK1307.out 1).trans rfl
       have hfz19_0 := blk_frozen BK1307.out 0
       have hfz19_1 := blk_frozen BK1307.out 1
       try go_wp2_with (first | ((with_reducible refine gate_callee (f := 52) rfl ?_); refine goesL_ (some 17) rfl rfl Try.func52 (by kernel_rfl) rfl #[.agg #[.int .i64 a0_0, .int .i64 a0_1]] rfl (by (try simp only [List.map_toArray, List.map_cons, List.map_nil]); first | done | rfl | (simp only [List.length_drop, List.length_take]; rfl)) ?_; (with_reducible refine (impl_BarLong.calls a0_0 a0_1 t1310 _ A13.out).mono ?_); rintro e w20 ⟨rfl, hb⟩; refine ⟨_, rfl, ?_⟩; have n0_ := Aside0.mk (blk_below (g := gb1307) (o := .cells #[.int .i64 a0_0, .int .i64 a0_1] 73 (0, 0)) (by (with_reducible repeat (first | refine blk_drewN ?_ _ | refine blk_drew ?_ | refine blk_alloc ?_ _)); exact BK1307.out) hb); have n1_ := Aside0.mk (below_step (by repeat (first | (with_reducible first | exact HB.out | apply below_alloc | apply pw_below_drewN | apply below_drew1 | refine below_set ?_ GE1307.out) | exact HB.out)) hb); clear BK1307; clear HB; have BK1307 := n0_; have HB := n1_; clear n0_ n1_; (try clear hb); (try clear hb2); (try clear hk); (try clear hi)))
       have n0_ := Aside0.mk (blk_drew BK1307.out)
       have n1_ := Aside0.mk (below_drew1 HB.out)
       clear BK1307
       clear HB
       have BK1307 := n0_
       have HB := n1_
       clear n0_ n1_
       refine BelowW.region (by kernel_rfl) (by kernel_rfl) ?_
       have hq0_ : w20.drew.cell? ⟨gb1307, 0, none⟩ = some (.int .i64 a0_0) := (blk_cell BK1307.out 0).trans rfl
       have hq1_ : w20.drew.cell? ⟨gb1307, 1, none⟩ = some (.int .i64 a0_1) := (blk_cell BK1307.out 1).trans rfl
       generalize w20.drew = w21 at BK1307 HB hq0_ hq1_ ⊢
       replace hq0_ := BelowW.at hq0_
       replace hq1_ := BelowW.at hq1_
       change wpQuiet _ _ _ _ (List.cons _ _) _
       repeat (go_big_quiet_step (fail))
       go_big_quiet_step ((go_at_call 114; (with_reducible refine (impl_Meter_beat.calls a0_0 a0_1 t1311 _ A15.out).mono ?_); exact fun _ _ h_ => ⟨h_.1, BelowW.step _ h_.2⟩))
       repeat (go_big_quiet_step (fail))
       go_big_quiet_step ((go_at_call 114; (with_reducible refine (impl_Meter_beat.calls a0_0 a0_1 t1312 _ A17.out).mono ?_); exact fun _ _ h_ => ⟨h_.1, BelowW.step _ h_.2⟩))
       repeat (go_big_quiet_step (fail))
       refine wpQuiet_nil ?_
       intro w23 hb
       try simp only [i64_w, i32_w]
       clear hq0_ hq1_
       have n0_ := Aside0.mk (blk_below (g := gb1307) (o := .cells #[.int .i64 a0_0, .int .i64 a0_1] 73 (0, 0)) (by (with_reducible repeat (first | refine blk_drewN ?_ _ | refine blk_drew ?_ | refine blk_alloc ?_ _)); exact BK1307.out) hb)
       have n1_ := Aside0.mk (below_step (by repeat (first | (with_reducible first | exact HB.out | apply below_alloc | apply pw_below_drewN | apply below_drew1 | refine below_set ?_ GE1307.out) | exact HB.out)) hb)
       clear BK1307
       clear HB
       have BK1307 := n0_
       have HB := n1_
       clear n0_ n1_
       (try clear hb)
       (try clear hb2)
       (try clear hk)
       (try clear hi)
       try go_wp2
       go_ret3
       exact ⟨by first | rfl | (simp [errW_none, errW_some] <;> rfl) | (simp [*, errW_none, errW_some] <;> rfl), by repeat (first | (with_reducible first | exact HB.out | apply below_alloc | apply pw_below_drewN | apply below_drew1 | refine below_set ?_ GE1307.out) | exact HB.out)⟩
end Go.Proofs.Ytbhlmeghbfmgiaa.F

namespace Go.Proofs.Ytbhlmeghbfmgiaa.F
open Go.RowKit Go.Proofs.YtbhlmeghbfmgiaaW.PrintWords Go.Proofs.YtbhlmeghbfmgiaaW.PrintLast Go.Proofs.YtbhlmeghbfmgiaaW.PrintMore
attribute [local go_sem] max2_int min2_int max_two min_two max_three min_three max_four min_four
set_option linter.unusedVariables false
set_option linter.unusedSimpArgs false
def spec_l1In.f (a0 : Int) (a1 : Int) (a2 : Int) : Option (Bool) := if a0 ≥ a1 then (some (decide (a0 ≤ a2))) else (some false)
set_option maxHeartbeats 8000000 in
set_option maxRecDepth 100000 in
theorem spec_l1In.calls (a0 : Int) (a1 : Int) (a2 : Int) (r : Bool) (w : World) (h : spec_l1In.f a0 a1 a2 = some r) :
  Calls Try.prog 110 #[.int .i64 a0, .int .i64 a1, .int .i64 a2] w fun e w' => e = .returned (.bool r) ∧ Drawn0 w w' := by
 have H : (if a0 ≥ a1 then (some (decide (a0 ≤ a2))) else (some false)) = some r := h
 clear h
 by_cases c4 : a0 ≥ a1
 ·
  rw [if_pos c4] at H
  have c4b0 : decide (a1 ≤ a0) = true := decide_eq_true c4
  clear c4
  obtain rfl := Option.some.inj H
  go_enter Try.func110, Try.ntmps110
  go_wp2
  go_ret
  exact ⟨by first | rfl | (simp; done) | (simp [*]; done), by repeat (first | exact Drawn0.refl _ | apply Drawn0.step)⟩
 ·
  rw [if_neg c4] at H
  have c4b0 : decide (a1 ≤ a0) = false := decide_eq_false c4
  clear c4
  obtain rfl := Option.some.inj H
  go_enter Try.func110, Try.ntmps110
  go_wp2
  go_ret
  exact ⟨by first | rfl | (simp; done) | (simp [*]; done), by repeat (first | exact Drawn0.refl _ | apply Drawn0.step)⟩
end Go.Proofs.Ytbhlmeghbfmgiaa.F

namespace Go.Proofs.Ytbhlmeghbfmgiaa.F
open Go.RowKit Go.Proofs.YtbhlmeghbfmgiaaW.PrintWords Go.Proofs.YtbhlmeghbfmgiaaW.PrintLast Go.Proofs.YtbhlmeghbfmgiaaW.PrintMore
attribute [local go_sem] max2_int min2_int max_two min_two max_three min_three max_four min_four
set_option linter.unusedVariables false
set_option linter.unusedSimpArgs false
def spec_IsMeter.f (a0_0 : Int) (a0_1 : Int) : Option (Bool) := (spec_l1In.f a0_0 1 12).bind fun t1314 => (if t1314 = true then (if a0_1 = 1 then (some true) else (if a0_1 = 2 then (some true) else (if a0_1 = 4 then (some true) else (some (a0_1 == 8))))) else (some false))
set_option maxHeartbeats 8000000 in
set_option maxRecDepth 100000 in
theorem spec_IsMeter.calls (a0_0 : Int) (a0_1 : Int) (r : Bool) (w : World) (h : spec_IsMeter.f a0_0 a0_1 = some r) :
  Calls Try.prog 115 #[.agg #[.int .i64 a0_0, .int .i64 a0_1]] w fun e w' => e = .returned (.bool r) ∧ Below w.heap.size w w' := by
 have hu73 := Try.underlying73
 have HB := Aside0.mk (Below.refl w.heap.size w)
 have H : ((spec_l1In.f a0_0 1 12).bind fun t1314 => (if t1314 = true then (if a0_1 = 1 then (some true) else (if a0_1 = 2 then (some true) else (if a0_1 = 4 then (some true) else (some (a0_1 == 8))))) else (some false))) = some r := h
 clear h
 replace H := Option.bind_eq_some_iff.mp H
 obtain ⟨t1314, A20, H⟩ := H
 try dsimp only at H
 have A2 := Aside0.mk A20
 clear A20
 by_cases c3 : t1314 = true
 ·
  subst c3
  rw [if_pos rfl] at H
  by_cases c4 : a0_1 = 1
  ·
   rw [if_pos c4] at H
   have c4b0 : (a0_1 == 1) = true := beq_iff_eq.mpr c4
   have c4b1 : (a0_1 != 1) = false := bne_eq_false_iff_eq.mpr c4
   clear c4
   obtain rfl := Option.some.inj H
   go_enter Try.func115, Try.ntmps115
   go_wp2_with (first | ((with_reducible refine gate_dst (N := 1) rfl ?_); refine box_event ?hg (N := 1) ?hd (cs := #[.int .i64 a0_0, .int .i64 a0_1]) (t := 73) ?hr ?_; (case hd => rfl); (case hg => rfl); (case hr => first | (go_simp; done) | (go_simp; rfl)); intro gb1313 hg w5 hbox hb; have n0_ := Aside0.mk (below_step (by repeat (first | (with_reducible first | exact HB.out | apply below_alloc | apply pw_below_drewN | apply below_drew1) | exact HB.out)) hb); have n1_ := Aside0.mk (hbox); have n2_ := Aside0.mk ((by rw [hg]; exact (below_size (by repeat (first | (with_reducible first | exact HB.out | apply below_alloc | apply pw_below_drewN | apply below_drew1) | exact HB.out))) : w.heap.size ≤ gb1313)); have n3_ := Aside0.mk ((by rw [hg]; exact (below_size (by repeat (first | (with_reducible first | exact HB.out | apply below_alloc | apply pw_below_drewN | apply below_drew1) | exact HB.out))) : w.heap.size ≤ gb1313)); clear HB; have HB := n0_; have BK1313 := n1_; have GW1313 := n2_; have GE1313 := n3_; clear n0_ n1_ n2_ n3_; clear hb hbox hg; have hcz6_0 : w5.cell? ⟨gb1313, 0, none⟩ = some (.int .i64 a0_0) := (blk_cell BK1313.out 0).trans rfl; have hcz6_1 : w5.cell? ⟨gb1313, 1, none⟩ = some (.int .i64 a0_1) := (blk_cell BK1313.out 1).trans rfl; have hfz6_0 := blk_frozen BK1313.out 0; have hfz6_1 := blk_frozen BK1313.out 1) | ((with_reducible refine gate_callee (f := 110) rfl ?_); refine goesL_ (some 5) rfl rfl Try.func110 (by kernel_rfl) rfl #[.int .i64 a0_0, .int .i64 1, .int .i64 12] rfl (by (try simp only [List.map_toArray, List.map_cons, List.map_nil]); first | done | rfl | (simp only [List.length_drop, List.length_take]; rfl)) ?_; (with_reducible refine (spec_l1In.calls a0_0 1 12 true _ A2.out).mono ?_); rintro e w' ⟨rfl, ⟨nd, rfl⟩⟩; refine ⟨_, rfl, ?_⟩))
   go_ret
   exact ⟨by first | rfl | (simp [errW_none, errW_some] <;> rfl) | (simp [*, errW_none, errW_some] <;> rfl), by repeat (first | (with_reducible first | exact HB.out | apply below_alloc | apply pw_below_drewN | apply below_drew1 | refine below_set ?_ GE1313.out) | exact HB.out)⟩
  ·
   rw [if_neg c4] at H
   have c4b0 : (a0_1 == 1) = false := beq_eq_false_iff_ne.mpr c4
   have c4b1 : (a0_1 != 1) = true := bne_iff_ne.mpr c4
   by_cases c7 : a0_1 = 2
   ·
    rw [if_pos c7] at H
    have c7b0 : (a0_1 == 2) = true := beq_iff_eq.mpr c7
    have c7b1 : (a0_1 != 2) = false := bne_eq_false_iff_eq.mpr c7
    clear c7
    obtain rfl := Option.some.inj H
    go_enter Try.func115, Try.ntmps115
    go_wp2_with (first | ((with_reducible refine gate_dst (N := 1) rfl ?_); refine box_event ?hg (N := 1) ?hd (cs := #[.int .i64 a0_0, .int .i64 a0_1]) (t := 73) ?hr ?_; (case hd => rfl); (case hg => rfl); (case hr => first | (go_simp; done) | (go_simp; rfl)); intro gb1313 hg w8 hbox hb; have n0_ := Aside0.mk (below_step (by repeat (first | (with_reducible first | exact HB.out | apply below_alloc | apply pw_below_drewN | apply below_drew1) | exact HB.out)) hb); have n1_ := Aside0.mk (hbox); have n2_ := Aside0.mk ((by rw [hg]; exact (below_size (by repeat (first | (with_reducible first | exact HB.out | apply below_alloc | apply pw_below_drewN | apply below_drew1) | exact HB.out))) : w.heap.size ≤ gb1313)); have n3_ := Aside0.mk ((by rw [hg]; exact (below_size (by repeat (first | (with_reducible first | exact HB.out | apply below_alloc | apply pw_below_drewN | apply below_drew1) | exact HB.out))) : w.heap.size ≤ gb1313)); clear HB; have HB := n0_; have BK1313 := n1_; have GW1313 := n2_; have GE1313 := n3_; clear n0_ n1_ n2_ n3_; clear hb hbox hg; have hcz9_0 : w8.cell? ⟨gb1313, 0, none⟩ = some (.int .i64 a0_0) := (blk_cell BK1313.out 0).trans rfl; have hcz9_1 : w8.cell? ⟨gb1313, 1, none⟩ = some (.int .i64 a0_1) := (blk_cell BK1313.out 1).trans rfl; have hfz9_0 := blk_frozen BK1313.out 0; have hfz9_1 := blk_frozen BK1313.out 1) | ((with_reducible refine gate_callee (f := 110) rfl ?_); refine goesL_ (some 5) rfl rfl Try.func110 (by kernel_rfl) rfl #[.int .i64 a0_0, .int .i64 1, .int .i64 12] rfl (by (try simp only [List.map_toArray, List.map_cons, List.map_nil]); first | done | rfl | (simp only [List.length_drop, List.length_take]; rfl)) ?_; (with_reducible refine (spec_l1In.calls a0_0 1 12 true _ A2.out).mono ?_); rintro e w' ⟨rfl, ⟨nd, rfl⟩⟩; refine ⟨_, rfl, ?_⟩))
    go_ret
    exact ⟨by first | rfl | (simp [errW_none, errW_some] <;> rfl) | (simp [*, errW_none, errW_some] <;> rfl), by repeat (first | (with_reducible first | exact HB.out | apply below_alloc | apply pw_below_drewN | apply below_drew1 | refine below_set ?_ GE1313.out) | exact HB.out)⟩
   ·
    rw [if_neg c7] at H
    have c7b0 : (a0_1 == 2) = false := beq_eq_false_iff_ne.mpr c7
    have c7b1 : (a0_1 != 2) = true := bne_iff_ne.mpr c7
    by_cases c10 : a0_1 = 4
    ·
     rw [if_pos c10] at H
     have c10b0 : (a0_1 == 4) = true := beq_iff_eq.mpr c10
     have c10b1 : (a0_1 != 4) = false := bne_eq_false_iff_eq.mpr c10
     clear c10
     obtain rfl := Option.some.inj H
     go_enter Try.func115, Try.ntmps115
     go_wp2_with (first | ((with_reducible refine gate_dst (N := 1) rfl ?_); refine box_event ?hg (N := 1) ?hd (cs := #[.int .i64 a0_0, .int .i64 a0_1]) (t := 73) ?hr ?_; (case hd => rfl); (case hg => rfl); (case hr => first | (go_simp; done) | (go_simp; rfl)); intro gb1313 hg w11 hbox hb; have n0_ := Aside0.mk (below_step (by repeat (first | (with_reducible first | exact HB.out | apply below_alloc | apply pw_below_drewN | apply below_drew1) | exact HB.out)) hb); have n1_ := Aside0.mk (hbox); have n2_ := Aside0.mk ((by rw [hg]; exact (below_size (by repeat (first | (with_reducible first | exact HB.out | apply below_alloc | apply pw_below_drewN | apply below_drew1) | exact HB.out))) : w.heap.size ≤ gb1313)); have n3_ := Aside0.mk ((by rw [hg]; exact (below_size (by repeat (first | (with_reducible first | exact HB.out | apply below_alloc | apply pw_below_drewN | apply below_drew1) | exact HB.out))) : w.heap.size ≤ gb1313)); clear HB; have HB := n0_; have BK1313 := n1_; have GW1313 := n2_; have GE1313 := n3_; clear n0_ n1_ n2_ n3_; clear hb hbox hg; have hcz12_0 : w11.cell? ⟨gb1313, 0, none⟩ = some (.int .i64 a0_0) := (blk_cell BK1313.out 0).trans rfl; have hcz12_1 : w11.cell? ⟨gb1313, 1, none⟩ = some (.int .i64 a0_1) := (blk_cell BK1313.out 1).trans rfl; have hfz12_0 := blk_frozen BK1313.out 0; have hfz12_1 := blk_frozen BK1313.out 1) | ((with_reducible refine gate_callee (f := 110) rfl ?_); refine goesL_ (some 5) rfl rfl Try.func110 (by kernel_rfl) rfl #[.int .i64 a0_0, .int .i64 1, .int .i64 12] rfl (by (try simp only [List.map_toArray, List.map_cons, List.map_nil]); first | done | rfl | (simp only [List.length_drop, List.length_take]; rfl)) ?_; (with_reducible refine (spec_l1In.calls a0_0 1 12 true _ A2.out).mono ?_); rintro e w' ⟨rfl, ⟨nd, rfl⟩⟩; refine ⟨_, rfl, ?_⟩))
     go_ret
     exact ⟨by first | rfl | (simp [errW_none, errW_some] <;> rfl) | (simp [*, errW_none, errW_some] <;> rfl), by repeat (first | (with_reducible first | exact HB.out | apply below_alloc | apply pw_below_drewN | apply below_drew1 | refine below_set ?_ GE1313.out) | exact HB.out)⟩
    ·
     rw [if_neg c10] at H
     have c10b0 : (a0_1 == 4) = false := beq_eq_false_iff_ne.mpr c10
     have c10b1 : (a0_1 != 4) = true := bne_iff_ne.mpr c10
     obtain rfl := Option.some.inj H
     go_enter Try.func115, Try.ntmps115
     go_wp2_with (first | ((with_reducible refine gate_dst (N := 1) rfl ?_); refine box_event ?hg (N := 1) ?hd (cs := #[.int .i64 a0_0, .int .i64 a0_1]) (t := 73) ?hr ?_; (case hd => rfl); (case hg => rfl); (case hr => first | (go_simp; done) | (go_simp; rfl)); intro gb1313 hg w13 hbox hb; have n0_ := Aside0.mk (below_step (by repeat (first | (with_reducible first | exact HB.out | apply below_alloc | apply pw_below_drewN | apply below_drew1) | exact HB.out)) hb); have n1_ := Aside0.mk (hbox); have n2_ := Aside0.mk ((by rw [hg]; exact (below_size (by repeat (first | (with_reducible first | exact HB.out | apply below_alloc | apply pw_below_drewN | apply below_drew1) | exact HB.out))) : w.heap.size ≤ gb1313)); have n3_ := Aside0.mk ((by rw [hg]; exact (below_size (by repeat (first | (with_reducible first | exact HB.out | apply below_alloc | apply pw_below_drewN | apply below_drew1) | exact HB.out))) : w.heap.size ≤ gb1313)); clear HB; have HB := n0_; have BK1313 := n1_; have GW1313 := n2_; have GE1313 := n3_; clear n0_ n1_ n2_ n3_; clear hb hbox hg; have hcz14_0 : w13.cell? ⟨gb1313, 0, none⟩ = some (.int .i64 a0_0) := (blk_cell BK1313.out 0).trans rfl; have hcz14_1 : w13.cell? ⟨gb1313, 1, none⟩ = some (.int .i64 a0_1) := (blk_cell BK1313.out 1).trans rfl; have hfz14_0 := blk_frozen BK1313.out 0; have hfz14_1 := blk_frozen BK1313.out 1) | ((with_reducible refine gate_callee (f := 110) rfl ?_); refine goesL_ (some 5) rfl rfl Try.func110 (by kernel_rfl) rfl #[.int .i64 a0_0, .int .i64 1, .int .i64 12] rfl (by (try simp only [List.map_toArray, List.map_cons, List.map_nil]); first | done | rfl | (simp only [List.length_drop, List.length_take]; rfl)) ?_; (with_reducible refine (spec_l1In.calls a0_0 1 12 true _ A2.out).mono ?_); rintro e w' ⟨rfl, ⟨nd, rfl⟩⟩; refine ⟨_, rfl, ?_⟩))
     go_ret
     exact ⟨by first | rfl | (simp [errW_none, errW_some] <;> rfl) | (simp [*, errW_none, errW_some] <;> rfl), by repeat (first | (with_reducible first | exact HB.out | apply below_alloc | apply pw_below_drewN | apply below_drew1 | refine below_set ?_ GE1313.out) | exact HB.out)⟩
 ·
  replace c3 := Bool.eq_false_iff.mpr c3
  subst c3
  rw [if_neg (show ¬ (false = true) by decide)] at H
  obtain rfl := Option.some.inj H
  go_enter Try.func115, Try.ntmps115
  go_wp2_with (first | ((with_reducible refine gate_dst (N := 1) rfl ?_); refine box_event ?hg (N := 1) ?hd (cs := #[.int .i64 a0_0, .int .i64 a0_1]) (t := 73) ?hr ?_; (case hd => rfl); (case hg => rfl); (case hr => first | (go_simp; done) | (go_simp; rfl)); intro gb1313 hg w15 hbox hb; have n0_ := Aside0.mk (below_step (by repeat (first | (with_reducible first | exact HB.out | apply below_alloc | apply pw_below_drewN | apply below_drew1) | exact HB.out)) hb); have n1_ := Aside0.mk (hbox); have n2_ := Aside0.mk ((by rw [hg]; exact (below_size (by repeat (first | (with_reducible first | exact HB.out | apply below_alloc | apply pw_below_drewN | apply below_drew1) | exact HB.out))) : w.heap.size ≤ gb1313)); have n3_ := Aside0.mk ((by rw [hg]; exact (below_size (by repeat (first | (with_reducible first | exact HB.out | apply below_alloc | apply pw_below_drewN | apply below_drew1) | exact HB.out))) : w.heap.size ≤ gb1313)); clear HB; have HB := n0_; have BK1313 := n1_; have GW1313 := n2_; have GE1313 := n3_; clear n0_ n1_ n2_ n3_; clear hb hbox hg; have hcz16_0 : w15.cell? ⟨gb1313, 0, none⟩ = some (.int .i64 a0_0) := (blk_cell BK1313.out 0).trans rfl; have hcz16_1 : w15.cell? ⟨gb1313, 1, none⟩ = some (.int .i64 a0_1) := (blk_cell BK1313.out 1).trans rfl; have hfz16_0 := blk_frozen BK1313.out 0; have hfz16_1 := blk_frozen BK1313.out 1) | ((with_reducible refine gate_callee (f := 110) rfl ?_); refine goesL_ (some 5) rfl rfl Try.func110 (by kernel_rfl) rfl #[.int .i64 a0_0, .int .i64 1, .int .i64 12] rfl (by (try simp only [List.map_toArray, List.map_cons, List.map_nil]); first | done | rfl | (simp only [List.length_drop, List.length_take]; rfl)) ?_; (with_reducible refine (spec_l1In.calls a0_0 1 12 false _ A2.out).mono ?_); rintro e w' ⟨rfl, ⟨nd, rfl⟩⟩; refine ⟨_, rfl, ?_⟩))
  go_ret
  exact ⟨by first | rfl | (simp [errW_none, errW_some] <;> rfl) | (simp [*, errW_none, errW_some] <;> rfl), by repeat (first | (with_reducible first | exact HB.out | apply below_alloc | apply pw_below_drewN | apply below_drew1 | refine below_set ?_ GE1313.out) | exact HB.out)⟩
end Go.Proofs.Ytbhlmeghbfmgiaa.F

namespace Go.Proofs.Ytbhlmeghbfmgiaa.F
open Go.RowKit Go.Proofs.YtbhlmeghbfmgiaaW.PrintWords Go.Proofs.YtbhlmeghbfmgiaaW.PrintLast Go.Proofs.YtbhlmeghbfmgiaaW.PrintMore
attribute [local go_sem] max2_int min2_int max_two min_two max_three min_three max_four min_four
set_option linter.unusedVariables false
set_option linter.unusedSimpArgs false
def spec_l10Beat.f (a0_0 : Int) (a0_1 : Int) : Option (Int) := if a0_1 = 0 then (none) else (some (wrap64 (Int.tdiv 48 a0_1)))
set_option maxHeartbeats 8000000 in
set_option maxRecDepth 100000 in
theorem spec_l10Beat.calls (a0_0 : Int) (a0_1 : Int) (r : Int) (w : World) (h : spec_l10Beat.f a0_0 a0_1 = some r) :
  Calls Try.prog 117 #[.agg #[.int .i64 a0_0, .int .i64 a0_1]] w fun e w' => e = .returned (.int .i64 r) ∧ Below w.heap.size w w' := by
 have hu := Try.underlying73
 have HB := Aside0.mk (Below.refl w.heap.size w)
 have H : (if a0_1 = 0 then (none) else (some (wrap64 (Int.tdiv 48 a0_1)))) = some r := h
 clear h
 by_cases c2 : a0_1 = 0
 ·
  rw [if_pos c2] at H
  exact absurd H (by simp)
 ·
  rw [if_neg c2] at H
  have c2b0 : (a0_1 == 0) = false := beq_eq_false_iff_ne.mpr c2
  have c2b1 : (a0_1 != 0) = true := bne_iff_ne.mpr c2
  obtain rfl := Option.some.inj H
  go_enter Try.func117, Try.ntmps117
  go_wp2_with (first | ((with_reducible refine gate_dst (N := 1) rfl ?_); refine box_event ?hg (N := 1) ?hd (cs := #[.int .i64 a0_0, .int .i64 a0_1]) (t := 73) ?hr ?_; (case hd => rfl); (case hg => rfl); (case hr => first | (go_simp; done) | (go_simp; rfl)); intro g hg w3 hbox hb; have n0_ := Aside0.mk (below_step HB.out hb); have n1_ := Aside0.mk (hbox); clear HB; have HB := n0_; have BK := n1_; clear n0_ n1_; clear hb hbox hg; have hc0 : w3.cell? ⟨g, 0, none⟩ = some (.int .i64 a0_0) := (blk_cell BK.out 0).trans rfl; have hc1 : w3.cell? ⟨g, 1, none⟩ = some (.int .i64 a0_1) := (blk_cell BK.out 1).trans rfl; have hf0 := blk_frozen BK.out 0; have hf1 := blk_frozen BK.out 1))
  go_ret
  exact ⟨rfl, HB.out⟩
end Go.Proofs.Ytbhlmeghbfmgiaa.F

namespace Go.Proofs.Ytbhlmeghbfmgiaa.F
open Go.RowKit Go.Proofs.YtbhlmeghbfmgiaaW.PrintWords Go.Proofs.YtbhlmeghbfmgiaaW.PrintLast Go.Proofs.YtbhlmeghbfmgiaaW.PrintMore
attribute [local go_sem] max2_int min2_int max_two min_two max_three min_three max_four min_four
set_option linter.unusedVariables false
set_option linter.unusedSimpArgs false
def spec_BarLong.f (a0_0 : Int) (a0_1 : Int) : Option (Int) := (spec_IsMeter.f a0_0 a0_1).bind fun t1317 => (if t1317 = true then ((spec_l10Beat.f a0_0 a0_1).bind fun t1318 => (some (wrap64 (a0_0 * t1318)))) else (some 0))
set_option maxHeartbeats 8000000 in
set_option maxRecDepth 100000 in
theorem spec_BarLong.calls (a0_0 : Int) (a0_1 : Int) (r : Int) (w : World) (h : spec_BarLong.f a0_0 a0_1 = some r) :
  Calls Try.prog 116 #[.agg #[.int .i64 a0_0, .int .i64 a0_1]] w fun e w' => e = .returned (.int .i64 r) ∧ Below w.heap.size w w' := by
 have hu73 := Try.underlying73
 have HB := Aside0.mk (Below.refl w.heap.size w)
 have H : ((spec_IsMeter.f a0_0 a0_1).bind fun t1317 => (if t1317 = true then ((spec_l10Beat.f a0_0 a0_1).bind fun t1318 => (some (wrap64 (a0_0 * t1318)))) else (some 0))) = some r := h
 clear h
 replace H := Option.bind_eq_some_iff.mp H
 obtain ⟨t1317, A20, H⟩ := H
 try dsimp only at H
 have A2 := Aside0.mk A20
 clear A20
 by_cases c3 : t1317 = true
 ·
  subst c3
  rw [if_pos rfl] at H
  replace H := Option.bind_eq_some_iff.mp H
  obtain ⟨t1318, A40, H⟩ := H
  try dsimp only at H
  have A4 := Aside0.mk A40
  clear A40
  obtain rfl := Option.some.inj H
  go_enter Try.func116, Try.ntmps116
  try go_wp2_with (first | ((with_reducible refine gate_dst (N := 1) rfl ?_); refine box_event ?hg (N := 1) ?hd (cs := #[.int .i64 a0_0, .int .i64 a0_1]) (t := 73) ?hr ?_; (case hd => rfl); (case hg => rfl); (case hr => first | (go_simp; done) | (go_simp; rfl)); intro gb1316 hg w5 hbox hb; have n0_ := Aside0.mk (below_step (by repeat (first | (with_reducible first | exact HB.out | apply below_alloc | apply pw_below_drewN | apply below_drew1) | exact HB.out)) hb); have n1_ := Aside0.mk (hbox); have n2_ := Aside0.mk ((by rw [hg]; exact (below_size (by repeat (first | (with_reducible first | exact HB.out | apply below_alloc | apply pw_below_drewN | apply below_drew1) | exact HB.out))) : w.heap.size ≤ gb1316)); have n3_ := Aside0.mk ((by rw [hg]; exact (below_size (by repeat (first | (with_reducible first | exact HB.out | apply below_alloc | apply pw_below_drewN | apply below_drew1) | exact HB.out))) : w.heap.size ≤ gb1316)); clear HB; have HB := n0_; have BK1316 := n1_; have GW1316 := n2_; have GE1316 := n3_; clear n0_ n1_ n2_ n3_; clear hb hbox hg; have hcz6_0 : w5.cell? ⟨gb1316, 0, none⟩ = some (.int .i64 a0_0) := (blk_cell BK1316.out 0).trans rfl; have hcz6_1 : w5.cell? ⟨gb1316, 1, none⟩ = some (.int .i64 a0_1) := (blk_cell BK1316.out 1).trans rfl; have hfz6_0 := blk_frozen BK1316.out 0; have hfz6_1 := blk_frozen BK1316.out 1) | ((with_reducible refine gate_callee (f := 115) rfl ?_); refine goesL_ (some 4) rfl rfl Try.func115 (by kernel_rfl) rfl #[.agg #[.int .i64 a0_0, .int .i64 a0_1]] rfl (by (try simp only [List.map_toArray, List.map_cons, List.map_nil]); first | done | rfl | (simp only [List.length_drop, List.length_take]; rfl)) ?_; (with_reducible refine (spec_IsMeter.calls a0_0 a0_1 true _ A2.out).mono ?_); rintro e w7 ⟨rfl, hb⟩; refine ⟨_, rfl, ?_⟩; have n0_ := Aside0.mk (blk_below (g := gb1316) (o := .cells #[.int .i64 a0_0, .int .i64 a0_1] 73 (0, 0)) (by (with_reducible repeat (first | refine blk_drewN ?_ _ | refine blk_drew ?_ | refine blk_alloc ?_ _)); exact BK1316.out) hb); have n1_ := Aside0.mk (below_step (by repeat (first | (with_reducible first | exact HB.out | apply below_alloc | apply pw_below_drewN | apply below_drew1 | refine below_set ?_ GE1316.out) | exact HB.out)) hb); clear BK1316; clear HB; have BK1316 := n0_; have HB := n1_; clear n0_ n1_; (try clear hb); (try clear hb2); (try clear hk); (try clear hi)))
  have n0_ := Aside0.mk (blk_drew BK1316.out)
  have n1_ := Aside0.mk (below_drew1 HB.out)
  clear BK1316
  clear HB
  have BK1316 := n0_
  have HB := n1_
  clear n0_ n1_
  refine BelowW.region (by kernel_rfl) (by kernel_rfl) ?_
  have hq0_ : w7.drew.cell? ⟨gb1316, 0, none⟩ = some (.int .i64 a0_0) := (blk_cell BK1316.out 0).trans rfl
  have hq1_ : w7.drew.cell? ⟨gb1316, 1, none⟩ = some (.int .i64 a0_1) := (blk_cell BK1316.out 1).trans rfl
  generalize w7.drew = w8 at BK1316 HB hq0_ hq1_ ⊢
  replace hq0_ := BelowW.at hq0_
  replace hq1_ := BelowW.at hq1_
  change wpQuiet _ _ _ _ (List.cons _ _) _
  repeat (go_big_quiet_step (first | (go_at_call 117; (with_reducible refine (spec_l10Beat.calls a0_0 a0_1 t1318 _ A4.out).mono ?_); exact fun _ _ h_ => ⟨h_.1, BelowW.step _ h_.2⟩)))
  refine wpQuiet_nil ?_
  intro w9 hb
  try simp only [i64_w, i32_w]
  clear hq0_ hq1_
  have n0_ := Aside0.mk (blk_below (g := gb1316) (o := .cells #[.int .i64 a0_0, .int .i64 a0_1] 73 (0, 0)) (by (with_reducible repeat (first | refine blk_drewN ?_ _ | refine blk_drew ?_ | refine blk_alloc ?_ _)); exact BK1316.out) hb)
  have n1_ := Aside0.mk (below_step (by repeat (first | (with_reducible first | exact HB.out | apply below_alloc | apply pw_below_drewN | apply below_drew1 | refine below_set ?_ GE1316.out) | exact HB.out)) hb)
  clear BK1316
  clear HB
  have BK1316 := n0_
  have HB := n1_
  clear n0_ n1_
  (try clear hb)
  (try clear hb2)
  (try clear hk)
  (try clear hi)
  try go_wp2
  go_ret
  exact ⟨by first | rfl | (simp [errW_none, errW_some] <;> rfl) | (simp [*, errW_none, errW_some] <;> rfl), by repeat (first | (with_reducible first | exact HB.out | apply below_alloc | apply pw_below_drewN | apply below_drew1 | refine below_set ?_ GE1316.out) | exact HB.out)⟩
 ·
  replace c3 := Bool.eq_false_iff.mpr c3
  subst c3
  rw [if_neg (show ¬ (false = true) by decide)] at H
  obtain rfl := Option.some.inj H
  go_enter Try.func116, Try.ntmps116
  go_wp2_with (first | ((with_reducible refine gate_dst (N := 1) rfl ?_); refine box_event ?hg (N := 1) ?hd (cs := #[.int .i64 a0_0, .int .i64 a0_1]) (t := 73) ?hr ?_; (case hd => rfl); (case hg => rfl); (case hr => first | (go_simp; done) | (go_simp; rfl)); intro gb1316 hg w10 hbox hb; have n0_ := Aside0.mk (below_step (by repeat (first | (with_reducible first | exact HB.out | apply below_alloc | apply pw_below_drewN | apply below_drew1) | exact HB.out)) hb); have n1_ := Aside0.mk (hbox); have n2_ := Aside0.mk ((by rw [hg]; exact (below_size (by repeat (first | (with_reducible first | exact HB.out | apply below_alloc | apply pw_below_drewN | apply below_drew1) | exact HB.out))) : w.heap.size ≤ gb1316)); have n3_ := Aside0.mk ((by rw [hg]; exact (below_size (by repeat (first | (with_reducible first | exact HB.out | apply below_alloc | apply pw_below_drewN | apply below_drew1) | exact HB.out))) : w.heap.size ≤ gb1316)); clear HB; have HB := n0_; have BK1316 := n1_; have GW1316 := n2_; have GE1316 := n3_; clear n0_ n1_ n2_ n3_; clear hb hbox hg; have hcz11_0 : w10.cell? ⟨gb1316, 0, none⟩ = some (.int .i64 a0_0) := (blk_cell BK1316.out 0).trans rfl; have hcz11_1 : w10.cell? ⟨gb1316, 1, none⟩ = some (.int .i64 a0_1) := (blk_cell BK1316.out 1).trans rfl; have hfz11_0 := blk_frozen BK1316.out 0; have hfz11_1 := blk_frozen BK1316.out 1) | ((with_reducible refine gate_callee (f := 115) rfl ?_); refine goesL_ (some 4) rfl rfl Try.func115 (by kernel_rfl) rfl #[.agg #[.int .i64 a0_0, .int .i64 a0_1]] rfl (by (try simp only [List.map_toArray, List.map_cons, List.map_nil]); first | done | rfl | (simp only [List.length_drop, List.length_take]; rfl)) ?_; (with_reducible refine (spec_IsMeter.calls a0_0 a0_1 false _ A2.out).mono ?_); rintro e w12 ⟨rfl, hb⟩; refine ⟨_, rfl, ?_⟩; have n0_ := Aside0.mk (blk_below (g := gb1316) (o := .cells #[.int .i64 a0_0, .int .i64 a0_1] 73 (0, 0)) (by (with_reducible repeat (first | refine blk_drewN ?_ _ | refine blk_drew ?_ | refine blk_alloc ?_ _)); exact BK1316.out) hb); have n1_ := Aside0.mk (below_step (by repeat (first | (with_reducible first | exact HB.out | apply below_alloc | apply pw_below_drewN | apply below_drew1 | refine below_set ?_ GE1316.out) | exact HB.out)) hb); clear BK1316; clear HB; have BK1316 := n0_; have HB := n1_; clear n0_ n1_; (try clear hb); (try clear hb2); (try clear hk); (try clear hi)))
  go_ret
  exact ⟨by first | rfl | (simp [errW_none, errW_some] <;> rfl) | (simp [*, errW_none, errW_some] <;> rfl), by repeat (first | (with_reducible first | exact HB.out | apply below_alloc | apply pw_below_drewN | apply below_drew1 | refine below_set ?_ GE1316.out) | exact HB.out)⟩
end Go.Proofs.Ytbhlmeghbfmgiaa.F

namespace Go.Proofs.Ytbhlmeghbfmgiaa.F
open Go.RowKit Go.Proofs.YtbhlmeghbfmgiaaW.PrintWords Go.Proofs.YtbhlmeghbfmgiaaW.PrintLast Go.Proofs.YtbhlmeghbfmgiaaW.PrintMore
attribute [local go_sem] max2_int min2_int max_two min_two max_three min_three max_four min_four
set_option linter.unusedVariables false
set_option linter.unusedSimpArgs false
def spec_PlaceOf.j0 : Nat → Int → Bool → Int → Int → Option (Int × Int × Int)
 | 0, _, _, _, _ => none
 | k + 1, x1, x15, x1320000, x1320001 => if x15 = true then (some (0, 0, 0)) else ((spec_BarLong.f x1320000 x1320001).bind fun t1322 => (if t1322 = 0 then (none) else ((spec_BarLong.f x1320000 x1320001).bind fun t1323 => (if t1323 = 0 then (none) else ((spec_l10Beat.f x1320000 x1320001).bind fun t1324 => (if t1324 = 0 then (none) else ((spec_l10Beat.f x1320000 x1320001).bind fun t1325 => (if t1325 = 0 then (none) else (some (wrap64 ((wrap64 (Int.tdiv x1 t1323)) + 1), wrap64 ((wrap64 (Int.tdiv (Int.tmod x1 t1322) t1324)) + 1), Int.tmod (Int.tmod x1 t1322) t1325))))))))))
def spec_PlaceOf.f (k : Nat) (a0_0 : Int) (a0_1 : Int) (a1 : Int) : Option (Int × Int × Int) := (spec_IsMeter.f a0_0 a0_1).bind fun t1320 => (if t1320 = true then ((spec_l1In.f a1 0 2000).bind fun t1321 => (spec_PlaceOf.j0 k a1 (!t1321) a0_0 a0_1)) else (spec_PlaceOf.j0 k a1 true a0_0 a0_1))
def spec_PlaceOf.T4 : Bool × List (List Nat × List Nat) := (true, [([], []), ([], []), ([1], [1]), ([0, 2], [0, 2]), ([3], [3]), ([], []), ([], []), ([6, 2], [6]), ([5, 7], [5, 7]), ([8], [8]), ([], []), ([], []), ([11, 7], [11]), ([10, 12], [10, 12]), ([4, 12, 0, 1, 2, 3, 4], [4]), ([9, 14, 0, 1, 2, 3, 4, 5, 6, 7, 8, 9, 14], [9]), ([13, 15, 0, 1, 2, 3, 4, 5, 6, 7, 8, 9, 10, 11, 12, 13, 14, 15], [13])])
def spec_PlaceOf.B4 : List Nat := [0, 0, 2, 7, 15, 0, 0, 70, 230, 486, 0, 0, 2246, 7366, 6367, 23551, 65535]
theorem spec_PlaceOf.tab4 : rtab .any (opsOf Try.f47 4) = spec_PlaceOf.T4 := by kernel_rfl
theorem spec_PlaceOf.bits4 : waitsOk spec_PlaceOf.T4.2 spec_PlaceOf.B4 = true := by kernel_rfl
set_option maxHeartbeats 8000000 in
set_option maxRecDepth 100000 in
theorem spec_PlaceOf.calls (k : Nat) (a0_0 : Int) (a0_1 : Int) (a1 : Int) (r1 : Int) (r2 : Int) (r3 : Int) (w : World) (h : spec_PlaceOf.f k a0_0 a0_1 a1 = some (r1, r2, r3)) :
  Calls Try.prog 47 #[.agg #[.int .i64 a0_0, .int .i64 a0_1], .int .i64 a1] w fun e w' => e = .returned (.tuple #[.int .i64 r1, .int .i64 r2, .int .i64 r3]) ∧ Below w.heap.size w w' := by
 have hu73 := Try.underlying73
 have HB := Aside0.mk (Below.refl w.heap.size w)
 have H : ((spec_IsMeter.f a0_0 a0_1).bind fun t1320 => (if t1320 = true then ((spec_l1In.f a1 0 2000).bind fun t1321 => (spec_PlaceOf.j0 k a1 (!t1321) a0_0 a0_1)) else (spec_PlaceOf.j0 k a1 true a0_0 a0_1))) = some (r1, r2, r3) := h
 clear h
 have HC3 := Aside0.mk H
 clear H
 go_enter Try.func47, Try.ntmps47
 go_upto_region 1 with (first | ((with_reducible refine gate_dst (N := 2) rfl ?_); refine box_event ?hg (N := 2) ?hd (cs := #[.int .i64 a0_0, .int .i64 a0_1]) (t := 73) ?hr ?_; (case hd => rfl); (case hg => rfl); (case hr => first | (go_simp; done) | (go_simp; rfl)); intro gb1319 hg w4 hbox hb; have n0_ := Aside0.mk (below_step (by repeat (first | (with_reducible first | exact HB.out | apply below_alloc | apply pw_below_drewN | apply below_drew1) | exact HB.out)) hb); have n1_ := Aside0.mk (hbox); have n2_ := Aside0.mk ((by rw [hg]; exact (below_size (by repeat (first | (with_reducible first | exact HB.out | apply below_alloc | apply pw_below_drewN | apply below_drew1) | exact HB.out))) : w.heap.size ≤ gb1319)); have n3_ := Aside0.mk ((by rw [hg]; exact (below_size (by repeat (first | (with_reducible first | exact HB.out | apply below_alloc | apply pw_below_drewN | apply below_drew1) | exact HB.out))) : w.heap.size ≤ gb1319)); clear HB; have HB := n0_; have BK1319 := n1_; have GW1319 := n2_; have GE1319 := n3_; clear n0_ n1_ n2_ n3_; clear hb hbox hg))
 (try simp only [Act.put, List.setIfInBounds_toArray, List.set_cons_zero, List.set_cons_succ])
 go_cut [15] (fun v15 wc => ∃ (kq : Nat) (x15_2 : Bool), v15 = .bool x15_2 ∧ Aside0 (spec_PlaceOf.j0 kq a1 x15_2 a0_0 a0_1 = some (r1, r2, r3)) ∧ Aside0 (kq ≤ k) ∧ Aside0 (wc.heap[gb1319]? = some (.cells #[.int .i64 a0_0, .int .i64 a0_1] 73 (0, 0))) ∧ Aside0 (Below w.heap.size w wc))
 case first =>
  have H := HC3.out
  clear HC3
  replace H := Option.bind_eq_some_iff.mp H
  obtain ⟨t1320, A50, H⟩ := H
  try dsimp only at H
  have A5 := Aside0.mk A50
  clear A50
  by_cases c6 : t1320 = true
  ·
   subst c6
   rw [if_pos rfl] at H
   replace H := Option.bind_eq_some_iff.mp H
   obtain ⟨t1321, A70, H⟩ := H
   try dsimp only at H
   have A7 := Aside0.mk A70
   clear A70
   have H' := Aside0.mk H
   clear H
   have hcz8_0 : w4.cell? ⟨gb1319, 0, none⟩ = some (.int .i64 a0_0) := (blk_cell BK1319.out 0).trans rfl
   have hcz8_1 : w4.cell? ⟨gb1319, 1, none⟩ = some (.int .i64 a0_1) := (blk_cell BK1319.out 1).trans rfl
   have hfz8_0 := blk_frozen BK1319.out 0
   have hfz8_1 := blk_frozen BK1319.out 1
   go_wp2_with (first | ((with_reducible refine gate_callee (f := 115) rfl ?_); refine goesL_ (some 9) rfl rfl Try.func115 (by kernel_rfl) rfl #[.agg #[.int .i64 a0_0, .int .i64 a0_1]] rfl (by (try simp only [List.map_toArray, List.map_cons, List.map_nil]); first | done | rfl | (simp only [List.length_drop, List.length_take]; rfl)) ?_; (with_reducible refine (spec_IsMeter.calls a0_0 a0_1 true _ A5.out).mono ?_); rintro e w9 ⟨rfl, hb⟩; refine ⟨_, rfl, ?_⟩; have n0_ := Aside0.mk (blk_below (g := gb1319) (o := .cells #[.int .i64 a0_0, .int .i64 a0_1] 73 (0, 0)) (by (with_reducible repeat (first | refine blk_drewN ?_ _ | refine blk_drew ?_ | refine blk_alloc ?_ _)); exact BK1319.out) hb); have n1_ := Aside0.mk (below_step (by repeat (first | (with_reducible first | exact HB.out | apply below_alloc | apply pw_below_drewN | apply below_drew1 | refine below_set ?_ GE1319.out) | exact HB.out)) hb); clear BK1319; clear HB; have BK1319 := n0_; have HB := n1_; clear n0_ n1_; (try clear hb); (try clear hb2); (try clear hk); (try clear hi)) | (go_at_call 110; (with_reducible refine (spec_l1In.calls a1 0 2000 t1321 _ A7.out).mono ?_); rintro e w' ⟨rfl, ⟨nd, rfl⟩⟩))
   go_meet
   case rel => exact ⟨_, (!t1321), (by first | rfl | (simp; done) | (simp [*]; done)), H', ⟨by first | omega | exact Nat.le_refl _⟩, ⟨by (with_reducible repeat (first | refine blk_drewN ?_ _ | refine blk_drew ?_ | refine blk_alloc ?_ _)); exact BK1319.out⟩, ⟨by repeat (first | (with_reducible first | exact HB.out | apply below_alloc | apply pw_below_drewN | apply below_drew1 | refine below_set ?_ GE1319.out) | exact HB.out)⟩⟩
  ·
   replace c6 := Bool.eq_false_iff.mpr c6
   subst c6
   rw [if_neg (show ¬ (false = true) by decide)] at H
   have H' := Aside0.mk H
   clear H
   have hcz10_0 : w4.cell? ⟨gb1319, 0, none⟩ = some (.int .i64 a0_0) := (blk_cell BK1319.out 0).trans rfl
   have hcz10_1 : w4.cell? ⟨gb1319, 1, none⟩ = some (.int .i64 a0_1) := (blk_cell BK1319.out 1).trans rfl
   have hfz10_0 := blk_frozen BK1319.out 0
   have hfz10_1 := blk_frozen BK1319.out 1
   go_wp2_with (first | ((with_reducible refine gate_callee (f := 115) rfl ?_); refine goesL_ (some 9) rfl rfl Try.func115 (by kernel_rfl) rfl #[.agg #[.int .i64 a0_0, .int .i64 a0_1]] rfl (by (try simp only [List.map_toArray, List.map_cons, List.map_nil]); first | done | rfl | (simp only [List.length_drop, List.length_take]; rfl)) ?_; (with_reducible refine (spec_IsMeter.calls a0_0 a0_1 false _ A5.out).mono ?_); rintro e w11 ⟨rfl, hb⟩; refine ⟨_, rfl, ?_⟩; have n0_ := Aside0.mk (blk_below (g := gb1319) (o := .cells #[.int .i64 a0_0, .int .i64 a0_1] 73 (0, 0)) (by (with_reducible repeat (first | refine blk_drewN ?_ _ | refine blk_drew ?_ | refine blk_alloc ?_ _)); exact BK1319.out) hb); have n1_ := Aside0.mk (below_step (by repeat (first | (with_reducible first | exact HB.out | apply below_alloc | apply pw_below_drewN | apply below_drew1 | refine below_set ?_ GE1319.out) | exact HB.out)) hb); clear BK1319; clear HB; have BK1319 := n0_; have HB := n1_; clear n0_ n1_; (try clear hb); (try clear hb2); (try clear hk); (try clear hi)))
   go_meet
   case rel => exact ⟨_, (true), (by first | rfl | (simp; done) | (simp [*]; done)), H', ⟨by first | omega | exact Nat.le_refl _⟩, ⟨by (with_reducible repeat (first | refine blk_drewN ?_ _ | refine blk_drew ?_ | refine blk_alloc ?_ _)); exact BK1319.out⟩, ⟨by repeat (first | (with_reducible first | exact HB.out | apply below_alloc | apply pw_below_drewN | apply below_drew1 | refine below_set ?_ GE1319.out) | exact HB.out)⟩⟩
 case rest =>
  clear HC3
  try clear c1
  try clear p2
  try clear c4
  try clear c6
  try clear c11
  try clear hcz10_0
  try clear hcz10_1
  try clear hcz8_0
  try clear hcz8_1
  try clear hfz10_0
  try clear hfz10_1
  try clear hfz8_0
  try clear hfz8_1
  obtain ⟨kq, x15_2, rfl, HA, HJ2, BK1319, HB⟩ := hcut
  cases kq with
  | zero => exact absurd HA.out (by simp [spec_PlaceOf.j0])
  | succ kj2 =>
   have H := HA.out
   clear HA
   simp only [spec_PlaceOf.j0] at H
   by_cases c12 : x15_2 = true
   ·
    subst c12
    rw [if_pos rfl] at H
    simp only [Option.some.injEq, Prod.mk.injEq] at H
    obtain ⟨rfl, rfl, rfl⟩ := H
    go_wp2
    go_ret3
    exact ⟨by first | rfl | (simp [errW_none, errW_some] <;> rfl) | (simp [*, errW_none, errW_some] <;> rfl), by repeat (first | (with_reducible first | exact HB.out | apply below_alloc | apply pw_below_drewN | apply below_drew1 | refine below_set ?_ GE1319.out) | exact HB.out)⟩
   ·
    replace c12 := Bool.eq_false_iff.mpr c12
    subst c12
    rw [if_neg (show ¬ (false = true) by decide)] at H
    replace H := Option.bind_eq_some_iff.mp H
    obtain ⟨t1322, A130, H⟩ := H
    try dsimp only at H
    have A13 := Aside0.mk A130
    clear A130
    by_cases c14 : t1322 = 0
    ·
     rw [if_pos c14] at H
     exact absurd H (by simp)
    ·
     rw [if_neg c14] at H
     have c14b0 : (t1322 == 0) = false := beq_eq_false_iff_ne.mpr c14
     have c14b1 : (t1322 != 0) = true := bne_iff_ne.mpr c14
     replace H := Option.bind_eq_some_iff.mp H
     obtain ⟨t1323, A150, H⟩ := H
     try dsimp only at H
     have A15 := Aside0.mk A150
     clear A150
     by_cases c16 : t1323 = 0
     ·
      rw [if_pos c16] at H
      exact absurd H (by simp)
     ·
      rw [if_neg c16] at H
      have c16b0 : (t1323 == 0) = false := beq_eq_false_iff_ne.mpr c16
      have c16b1 : (t1323 != 0) = true := bne_iff_ne.mpr c16
      replace H := Option.bind_eq_some_iff.mp H
      obtain ⟨t1324, A170, H⟩ := H
      try dsimp only at H
      have A17 := Aside0.mk A170
      clear A170
      by_cases c18 : t1324 = 0
      ·
       rw [if_pos c18] at H
       exact absurd H (by simp)
      ·
       rw [if_neg c18] at H
       have c18b0 : (t1324 == 0) = false := beq_eq_false_iff_ne.mpr c18
       have c18b1 : (t1324 != 0) = true := bne_iff_ne.mpr c18
       replace H := Option.bind_eq_some_iff.mp H
       obtain ⟨t1325, A190, H⟩ := H
       try dsimp only at H
       have A19 := Aside0.mk A190
       clear A190
       by_cases c20 : t1325 = 0
       ·
        rw [if_pos c20] at H
        exact absurd H (by simp)
       ·
        rw [if_neg c20] at H
        have c20b0 : (t1325 == 0) = false := beq_eq_false_iff_ne.mpr c20
        have c20b1 : (t1325 != 0) = true := bne_iff_ne.mpr c20
        simp only [Option.some.injEq, Prod.mk.injEq] at H
        obtain ⟨rfl, rfl, rfl⟩ := H
        have hcz21_0 : wc.cell? ⟨gb1319, 0, none⟩ = some (.int .i64 a0_0) := (blk_cell BK1319.out 0).trans rfl
        have hcz21_1 : wc.cell? ⟨gb1319, 1, none⟩ = some (.int .i64 a0_1) := (blk_cell BK1319.out 1).trans rfl
        have hfz21_0 := blk_frozen BK1319.out 0
        have hfz21_1 := blk_frozen BK1319.out 1
        try go_wp2_with (first | ((with_reducible refine gate_callee (f := 116) rfl ?_); refine goesL_ (some 18) rfl rfl Try.func116 (by kernel_rfl) rfl #[.agg #[.int .i64 a0_0, .int .i64 a0_1]] rfl (by (try simp only [List.map_toArray, List.map_cons, List.map_nil]); first | done | rfl | (simp only [List.length_drop, List.length_take]; rfl)) ?_; (with_reducible refine (spec_BarLong.calls a0_0 a0_1 t1322 _ A13.out).mono ?_); rintro e w22 ⟨rfl, hb⟩; refine ⟨_, rfl, ?_⟩; have n0_ := Aside0.mk (blk_below (g := gb1319) (o := .cells #[.int .i64 a0_0, .int .i64 a0_1] 73 (0, 0)) (by (with_reducible repeat (first | refine blk_drewN ?_ _ | refine blk_drew ?_ | refine blk_alloc ?_ _)); exact BK1319.out) hb); have n1_ := Aside0.mk (below_step (by repeat (first | (with_reducible first | exact HB.out | apply below_alloc | apply pw_below_drewN | apply below_drew1 | refine below_set ?_ GE1319.out) | exact HB.out)) hb); clear BK1319; clear HB; have BK1319 := n0_; have HB := n1_; clear n0_ n1_; (try clear hb); (try clear hb2); (try clear hk); (try clear hi)))
        have n0_ := Aside0.mk (blk_drew BK1319.out)
        have n1_ := Aside0.mk (below_drew1 HB.out)
        clear BK1319
        clear HB
        have BK1319 := n0_
        have HB := n1_
        clear n0_ n1_
        refine BelowW.region (by kernel_rfl) (by kernel_rfl) ?_
        have hq0_ : w22.drew.cell? ⟨gb1319, 0, none⟩ = some (.int .i64 a0_0) := (blk_cell BK1319.out 0).trans rfl
        have hq1_ : w22.drew.cell? ⟨gb1319, 1, none⟩ = some (.int .i64 a0_1) := (blk_cell BK1319.out 1).trans rfl
        generalize w22.drew = w23 at BK1319 HB hq0_ hq1_ ⊢
        replace hq0_ := BelowW.at hq0_
        replace hq1_ := BelowW.at hq1_
        change wpQuiet _ _ _ _ (List.cons _ _) _
        repeat (go_big_quiet_step (fail))
        go_big_quiet_step ((go_at_call 116; (with_reducible refine (spec_BarLong.calls a0_0 a0_1 t1323 _ A15.out).mono ?_); exact fun _ _ h_ => ⟨h_.1, BelowW.step _ h_.2⟩))
        repeat (go_big_quiet_step (fail))
        go_big_quiet_step ((go_at_call 117; (with_reducible refine (spec_l10Beat.calls a0_0 a0_1 t1324 _ A17.out).mono ?_); exact fun _ _ h_ => ⟨h_.1, BelowW.step _ h_.2⟩))
        repeat (go_big_quiet_step (fail))
        go_big_quiet_step ((go_at_call 117; (with_reducible refine (spec_l10Beat.calls a0_0 a0_1 t1325 _ A19.out).mono ?_); exact fun _ _ h_ => ⟨h_.1, BelowW.step _ h_.2⟩))
        repeat (go_big_quiet_step (fail))
        refine wpQuiet_nil ?_
        intro w26 hb
        try simp only [i64_w, i32_w]
        clear hq0_ hq1_
        have n0_ := Aside0.mk (blk_below (g := gb1319) (o := .cells #[.int .i64 a0_0, .int .i64 a0_1] 73 (0, 0)) (by (with_reducible repeat (first | refine blk_drewN ?_ _ | refine blk_drew ?_ | refine blk_alloc ?_ _)); exact BK1319.out) hb)
        have n1_ := Aside0.mk (below_step (by repeat (first | (with_reducible first | exact HB.out | apply below_alloc | apply pw_below_drewN | apply below_drew1 | refine below_set ?_ GE1319.out) | exact HB.out)) hb)
        clear BK1319
        clear HB
        have BK1319 := n0_
        have HB := n1_
        clear n0_ n1_
        (try clear hb)
        (try clear hb2)
        (try clear hk)
        (try clear hi)
        try go_wp2
        go_ret3
        exact ⟨by first | rfl | (simp [errW_none, errW_some] <;> rfl) | (simp [*, errW_none, errW_some] <;> rfl), by repeat (first | (with_reducible first | exact HB.out | apply below_alloc | apply pw_below_drewN | apply below_drew1 | refine below_set ?_ GE1319.out) | exact HB.out)⟩
end Go.Proofs.Ytbhlmeghbfmgiaa.F

namespace Go.Proofs.Ytbhlmeghbfmgiaa.F
open Go.RowKit Go.Proofs.YtbhlmeghbfmgiaaW.PrintWords Go.Proofs.YtbhlmeghbfmgiaaW.PrintLast Go.Proofs.YtbhlmeghbfmgiaaW.PrintMore
attribute [local go_sem] max2_int min2_int max_two min_two max_three min_three max_four min_four
set_option linter.unusedVariables false
set_option linter.unusedSimpArgs false
def impl_TickOf.j0 : Nat → Int → Int → Bool → Int → Int → Option (Int × Bool)
 | 0, _, _, _, _, _ => none
 | k + 1, x1, x2, x23, x1327000, x1327001 => if x23 = true then (some (0, false)) else ((impl_BarLong.f x1327000 x1327001).bind fun t1330 => ((impl_Meter_beat.f x1327000 x1327001).bind fun t1331 => (if (wrap64 ((wrap64 ((wrap64 (x1 - 1)) * t1330)) + (wrap64 ((wrap64 (x2 - 1)) * t1331)))) > 2000 then (some (0, false)) else (some (wrap64 ((wrap64 ((wrap64 (x1 - 1)) * t1330)) + (wrap64 ((wrap64 (x2 - 1)) * t1331))), true)))))
def impl_TickOf.f (k : Nat) (a0_0 : Int) (a0_1 : Int) (a1 : Int) (a2 : Int) : Option (Int × Bool) := (impl_IsMeter.f a0_0 a0_1).bind fun t1327 => (if t1327 = true then ((impl_InRange.f a1 1 500).bind fun t1328 => (if t1328 = true then ((impl_InRange.f a2 1 a0_0).bind fun t1329 => (impl_TickOf.j0 k a1 a2 (!t1329) a0_0 a0_1)) else (impl_TickOf.j0 k a1 a2 true a0_0 a0_1))) else (impl_TickOf.j0 k a1 a2 true a0_0 a0_1))
def impl_TickOf.T3 : Bool × List (List Nat × List Nat) := (true, [([], []), ([0], [0]), ([], []), ([2], [2]), ([1, 3], [1, 3]), ([], []), ([5], [5]), ([], []), ([7, 3], [7]), ([6, 8], [6, 8]), ([4, 9], [4, 9]), ([10, 8, 0, 1, 2, 3, 4, 5, 6, 7, 8, 9, 10], [10])])
def impl_TickOf.B3 : List Nat := [0, 1, 0, 4, 15, 0, 32, 0, 140, 492, 1023, 2047]
theorem impl_TickOf.tab3 : rtab .any (opsOf Try.f48 3) = impl_TickOf.T3 := by kernel_rfl
theorem impl_TickOf.bits3 : waitsOk impl_TickOf.T3.2 impl_TickOf.B3 = true := by kernel_rfl
set_option maxHeartbeats 8000000 in
set_option maxRecDepth 100000 in
theorem impl_TickOf.calls (k : Nat) (a0_0 : Int) (a0_1 : Int) (a1 : Int) (a2 : Int) (r1 : Int) (r2 : Bool) (w : World) (h : impl_TickOf.f k a0_0 a0_1 a1 a2 = some (r1, r2)) :
  Calls Try.prog 48 #[.agg #[.int .i64 a0_0, .int .i64 a0_1], .int .i64 a1, .int .i64 a2] w fun e w' => e = .returned (.tuple #[.int .i64 r1, .bool r2]) ∧ Below w.heap.size w w' := by
 have hu73 := Try.underlying73
 have HB := Aside0.mk (Below.refl w.heap.size w)
 have H : ((impl_IsMeter.f a0_0 a0_1).bind fun t1327 => (if t1327 = true then ((impl_InRange.f a1 1 500).bind fun t1328 => (if t1328 = true then ((impl_InRange.f a2 1 a0_0).bind fun t1329 => (impl_TickOf.j0 k a1 a2 (!t1329) a0_0 a0_1)) else (impl_TickOf.j0 k a1 a2 true a0_0 a0_1))) else (impl_TickOf.j0 k a1 a2 true a0_0 a0_1))) = some (r1, r2) := h
 clear h
 have HC4 := Aside0.mk H
 clear H
 go_enter Try.func48, Try.ntmps48
 go_upto_region 1 with (first | ((with_reducible refine gate_dst (N := 3) rfl ?_); refine box_event ?hg (N := 3) ?hd (cs := #[.int .i64 a0_0, .int .i64 a0_1]) (t := 73) ?hr ?_; (case hd => rfl); (case hg => rfl); (case hr => first | (go_simp; done) | (go_simp; rfl)); intro gb1326 hg w5 hbox hb; have n0_ := Aside0.mk (below_step (by repeat (first | (with_reducible first | exact HB.out | apply below_alloc | apply pw_below_drewN | apply below_drew1) | exact HB.out)) hb); have n1_ := Aside0.mk (hbox); have n2_ := Aside0.mk ((by rw [hg]; exact (below_size (by repeat (first | (with_reducible first | exact HB.out | apply below_alloc | apply pw_below_drewN | apply below_drew1) | exact HB.out))) : w.heap.size ≤ gb1326)); have n3_ := Aside0.mk ((by rw [hg]; exact (below_size (by repeat (first | (with_reducible first | exact HB.out | apply below_alloc | apply pw_below_drewN | apply below_drew1) | exact HB.out))) : w.heap.size ≤ gb1326)); clear HB; have HB := n0_; have BK1326 := n1_; have GW1326 := n2_; have GE1326 := n3_; clear n0_ n1_ n2_ n3_; clear hb hbox hg))
 (try simp only [Act.put, List.setIfInBounds_toArray, List.set_cons_zero, List.set_cons_succ])
 go_cut [23] (fun v23 wc => ∃ (kq : Nat) (x23_3 : Bool), v23 = .bool x23_3 ∧ Aside0 (impl_TickOf.j0 kq a1 a2 x23_3 a0_0 a0_1 = some (r1, r2)) ∧ Aside0 (kq ≤ k) ∧ Aside0 (wc.heap[gb1326]? = some (.cells #[.int .i64 a0_0, .int .i64 a0_1] 73 (0, 0))) ∧ Aside0 (Below w.heap.size w wc))
 case first =>
  have H := HC4.out
  clear HC4
  replace H := Option.bind_eq_some_iff.mp H
  obtain ⟨t1327, A60, H⟩ := H
  try dsimp only at H
  have A6 := Aside0.mk A60
  clear A60
  by_cases c7 : t1327 = true
  ·
   subst c7
   rw [if_pos rfl] at H
   replace H := Option.bind_eq_some_iff.mp H
   obtain ⟨t1328, A80, H⟩ := H
   try dsimp only at H
   have A8 := Aside0.mk A80
   clear A80
   by_cases c9 : t1328 = true
   ·
    subst c9
    rw [if_pos rfl] at H
    replace H := Option.bind_eq_some_iff.mp H
    obtain ⟨t1329, A100, H⟩ := H
    try dsimp only at H
    have A10 := Aside0.mk A100
    clear A100
    have H' := Aside0.mk H
    clear H
    have hcz11_0 : w5.cell? ⟨gb1326, 0, none⟩ = some (.int .i64 a0_0) := (blk_cell BK1326.out 0).trans rfl
    have hcz11_1 : w5.cell? ⟨gb1326, 1, none⟩ = some (.int .i64 a0_1) := (blk_cell BK1326.out 1).trans rfl
    have hfz11_0 := blk_frozen BK1326.out 0
    have hfz11_1 := blk_frozen BK1326.out 1
    go_wp2_with (first | ((with_reducible refine gate_callee (f := 55) rfl ?_); refine goesL_ (some 10) rfl rfl Try.func55 (by kernel_rfl) rfl #[.agg #[.int .i64 a0_0, .int .i64 a0_1]] rfl (by (try simp only [List.map_toArray, List.map_cons, List.map_nil]); first | done | rfl | (simp only [List.length_drop, List.length_take]; rfl)) ?_; (with_reducible refine (impl_IsMeter.calls a0_0 a0_1 true _ A6.out).mono ?_); rintro e w12 ⟨rfl, hb⟩; refine ⟨_, rfl, ?_⟩; have n0_ := Aside0.mk (blk_below (g := gb1326) (o := .cells #[.int .i64 a0_0, .int .i64 a0_1] 73 (0, 0)) (by (with_reducible repeat (first | refine blk_drewN ?_ _ | refine blk_drew ?_ | refine blk_alloc ?_ _)); exact BK1326.out) hb); have n1_ := Aside0.mk (below_step (by repeat (first | (with_reducible first | exact HB.out | apply below_alloc | apply pw_below_drewN | apply below_drew1 | refine below_set ?_ GE1326.out) | exact HB.out)) hb); clear BK1326; clear HB; have BK1326 := n0_; have HB := n1_; clear n0_ n1_; (try clear hb); (try clear hb2); (try clear hk); (try clear hi)) | (go_at_call 86; (with_reducible refine (impl_InRange.calls a1 1 500 true _ A8.out).mono ?_); rintro e w' ⟨rfl, ⟨nd, rfl⟩⟩; have hcz13_0 : w12.cell? ⟨gb1326, 0, none⟩ = some (.int .i64 a0_0) := (blk_cell BK1326.out 0).trans rfl; have hcz13_1 : w12.cell? ⟨gb1326, 1, none⟩ = some (.int .i64 a0_1) := (blk_cell BK1326.out 1).trans rfl; have hfz13_0 := blk_frozen BK1326.out 0; have hfz13_1 := blk_frozen BK1326.out 1) | (go_at_call 86; (with_reducible refine (impl_InRange.calls a2 1 a0_0 t1329 _ A10.out).mono ?_); rintro e w' ⟨rfl, ⟨nd, rfl⟩⟩))
    go_meet
    case rel => exact ⟨_, (!t1329), (by first | rfl | (simp; done) | (simp [*]; done)), H', ⟨by first | omega | exact Nat.le_refl _⟩, ⟨by (with_reducible repeat (first | refine blk_drewN ?_ _ | refine blk_drew ?_ | refine blk_alloc ?_ _)); exact BK1326.out⟩, ⟨by repeat (first | (with_reducible first | exact HB.out | apply below_alloc | apply pw_below_drewN | apply below_drew1 | refine below_set ?_ GE1326.out) | exact HB.out)⟩⟩
   ·
    replace c9 := Bool.eq_false_iff.mpr c9
    subst c9
    rw [if_neg (show ¬ (false = true) by decide)] at H
    have H' := Aside0.mk H
    clear H
    have hcz14_0 : w5.cell? ⟨gb1326, 0, none⟩ = some (.int .i64 a0_0) := (blk_cell BK1326.out 0).trans rfl
    have hcz14_1 : w5.cell? ⟨gb1326, 1, none⟩ = some (.int .i64 a0_1) := (blk_cell BK1326.out 1).trans rfl
    have hfz14_0 := blk_frozen BK1326.out 0
    have hfz14_1 := blk_frozen BK1326.out 1
    go_wp2_with (first | ((with_reducible refine gate_callee (f := 55) rfl ?_); refine goesL_ (some 10) rfl rfl Try.func55 (by kernel_rfl) rfl #[.agg #[.int .i64 a0_0, .int .i64 a0_1]] rfl (by (try simp only [List.map_toArray, List.map_cons, List.map_nil]); first | done | rfl | (simp only [List.length_drop, List.length_take]; rfl)) ?_; (with_reducible refine (impl_IsMeter.calls a0_0 a0_1 true _ A6.out).mono ?_); rintro e w15 ⟨rfl, hb⟩; refine ⟨_, rfl, ?_⟩; have n0_ := Aside0.mk (blk_below (g := gb1326) (o := .cells #[.int .i64 a0_0, .int .i64 a0_1] 73 (0, 0)) (by (with_reducible repeat (first | refine blk_drewN ?_ _ | refine blk_drew ?_ | refine blk_alloc ?_ _)); exact BK1326.out) hb); have n1_ := Aside0.mk (below_step (by repeat (first | (with_reducible first | exact HB.out | apply below_alloc | apply pw_below_drewN | apply below_drew1 | refine below_set ?_ GE1326.out) | exact HB.out)) hb); clear BK1326; clear HB; have BK1326 := n0_; have HB := n1_; clear n0_ n1_; (try clear hb); (try clear hb2); (try clear hk); (try clear hi)) | (go_at_call 86; (with_reducible refine (impl_InRange.calls a1 1 500 false _ A8.out).mono ?_); rintro e w' ⟨rfl, ⟨nd, rfl⟩⟩))
    go_meet
    case rel => exact ⟨_, (true), (by first | rfl | (simp; done) | (simp [*]; done)), H', ⟨by first | omega | exact Nat.le_refl _⟩, ⟨by (with_reducible repeat (first | refine blk_drewN ?_ _ | refine blk_drew ?_ | refine blk_alloc ?_ _)); exact BK1326.out⟩, ⟨by repeat (first | (with_reducible first | exact HB.out | apply below_alloc | apply pw_below_drewN | apply below_drew1 | refine below_set ?_ GE1326.out) | exact HB.out)⟩⟩
  ·
   replace c7 := Bool.eq_false_iff.mpr c7
   subst c7
   rw [if_neg (show ¬ (false = true) by decide)] at H
   have H' := Aside0.mk H
   clear H
   have hcz16_0 : w5.cell? ⟨gb1326, 0, none⟩ = some (.int .i64 a0_0) := (blk_cell BK1326.out 0).trans rfl
   have hcz16_1 : w5.cell? ⟨gb1326, 1, none⟩ = some (.int .i64 a0_1) := (blk_cell BK1326.out 1).trans rfl
   have hfz16_0 := blk_frozen BK1326.out 0
   have hfz16_1 := blk_frozen BK1326.out 1
   go_wp2_with (first | ((with_reducible refine gate_callee (f := 55) rfl ?_); refine goesL_ (some 10) rfl rfl Try.func55 (by kernel_rfl) rfl #[.agg #[.int .i64 a0_0, .int .i64 a0_1]] rfl (by (try simp only [List.map_toArray, List.map_cons, List.map_nil]); first | done | rfl | (simp only [List.length_drop, List.length_take]; rfl)) ?_; (with_reducible refine (impl_IsMeter.calls a0_0 a0_1 false _ A6.out).mono ?_); rintro e w17 ⟨rfl, hb⟩; refine ⟨_, rfl, ?_⟩; have n0_ := Aside0.mk (blk_below (g := gb1326) (o := .cells #[.int .i64 a0_0, .int .i64 a0_1] 73 (0, 0)) (by (with_reducible repeat (first | refine blk_drewN ?_ _ | refine blk_drew ?_ | refine blk_alloc ?_ _)); exact BK1326.out) hb); have n1_ := Aside0.mk (below_step (by repeat (first | (with_reducible first | exact HB.out | apply below_alloc | apply pw_below_drewN | apply below_drew1 | refine below_set ?_ GE1326.out) | exact HB.out)) hb); clear BK1326; clear HB; have BK1326 := n0_; have HB := n1_; clear n0_ n1_; (try clear hb); (try clear hb2); (try clear hk); (try clear hi)))
   go_meet
   case rel => exact ⟨_, (true), (by first | rfl | (simp; done) | (simp [*]; done)), H', ⟨by first | omega | exact Nat.le_refl _⟩, ⟨by (with_reducible repeat (first | refine blk_drewN ?_ _ | refine blk_drew ?_ | refine blk_alloc ?_ _)); exact BK1326.out⟩, ⟨by repeat (first | (with_reducible first | exact HB.out | apply below_alloc | apply pw_below_drewN | apply below_drew1 | refine below_set ?_ GE1326.out) | exact HB.out)⟩⟩
 case rest =>
  clear HC4
  try clear p2
  try clear c4
  try clear c5
  try clear c7
  try clear c9
  try clear hcz11_0
  try clear hcz11_1
  try clear hcz13_0
  try clear hcz13_1
  try clear hcz14_0
  try clear hcz14_1
  try clear hcz16_0
  try clear hcz16_1
  try clear hfz11_0
  try clear hfz11_1
  try clear hfz13_0
  try clear hfz13_1
  try clear hfz14_0
  try clear hfz14_1
  try clear hfz16_0
  try clear hfz16_1
  obtain ⟨kq, x23_3, rfl, HA, HJ3, BK1326, HB⟩ := hcut
  cases kq with
  | zero => exact absurd HA.out (by simp [impl_TickOf.j0])
  | succ kj3 =>
   have H := HA.out
   clear HA
   simp only [impl_TickOf.j0] at H
   by_cases c18 : x23_3 = true
   ·
    subst c18
    rw [if_pos rfl] at H
    simp only [Option.some.injEq, Prod.mk.injEq] at H
    obtain ⟨rfl, rfl⟩ := H
    go_wp2
    go_ret2
    exact ⟨by first | rfl | (simp [errW_none, errW_some] <;> rfl) | (simp [*, errW_none, errW_some] <;> rfl), by repeat (first | (with_reducible first | exact HB.out | apply below_alloc | apply pw_below_drewN | apply below_drew1 | refine below_set ?_ GE1326.out) | exact HB.out)⟩
   ·
    replace c18 := Bool.eq_false_iff.mpr c18
    subst c18
    rw [if_neg (show ¬ (false = true) by decide)] at H
    replace H := Option.bind_eq_some_iff.mp H
    obtain ⟨t1330, A190, H⟩ := H
    try dsimp only at H
    have A19 := Aside0.mk A190
    clear A190
    replace H := Option.bind_eq_some_iff.mp H
    obtain ⟨t1331, A200, H⟩ := H
    try dsimp only at H
    have A20 := Aside0.mk A200
    clear A200
    by_cases c21 : (wrap64 ((wrap64 ((wrap64 (a1 - 1)) * t1330)) + (wrap64 ((wrap64 (a2 - 1)) * t1331)))) > 2000
    ·
     rw [if_pos c21] at H
     have c21b0 : decide (2000 < (wrap64 ((wrap64 ((wrap64 (a1 - 1)) * t1330)) + (wrap64 ((wrap64 (a2 - 1)) * t1331))))) = true := decide_eq_true c21
     clear c21
     simp only [Option.some.injEq, Prod.mk.injEq] at H
     obtain ⟨rfl, rfl⟩ := H
     try go_wp2
     have n0_ := Aside0.mk (blk_drew BK1326.out)
     have n1_ := Aside0.mk (below_drew1 HB.out)
     clear BK1326
     clear HB
     have BK1326 := n0_
     have HB := n1_
     clear n0_ n1_
     refine BelowW.region (by kernel_rfl) (by kernel_rfl) ?_
     have hq0_ : wc.drew.cell? ⟨gb1326, 0, none⟩ = some (.int .i64 a0_0) := (blk_cell BK1326.out 0).trans rfl
     have hq1_ : wc.drew.cell? ⟨gb1326, 1, none⟩ = some (.int .i64 a0_1) := (blk_cell BK1326.out 1).trans rfl
     generalize wc.drew = w22 at BK1326 HB hq0_ hq1_ ⊢
     replace hq0_ := BelowW.at hq0_
     replace hq1_ := BelowW.at hq1_
     change wpQuiet _ _ _ _ (List.cons _ _) _
     repeat (go_big_quiet_step (first | (go_at_call 52; (with_reducible refine (impl_BarLong.calls a0_0 a0_1 t1330 _ A19.out).mono ?_); exact fun _ _ h_ => ⟨h_.1, BelowW.step _ h_.2⟩) | (go_at_call 114; (with_reducible refine (impl_Meter_beat.calls a0_0 a0_1 t1331 _ A20.out).mono ?_); exact fun _ _ h_ => ⟨h_.1, BelowW.step _ h_.2⟩)))
     refine wpQuiet_nil ?_
     intro w24 hb
     try simp only [i64_w, i32_w]
     clear hq0_ hq1_
     have n0_ := Aside0.mk (blk_below (g := gb1326) (o := .cells #[.int .i64 a0_0, .int .i64 a0_1] 73 (0, 0)) (by (with_reducible repeat (first | refine blk_drewN ?_ _ | refine blk_drew ?_ | refine blk_alloc ?_ _)); exact BK1326.out) hb)
     have n1_ := Aside0.mk (below_step (by repeat (first | (with_reducible first | exact HB.out | apply below_alloc | apply pw_below_drewN | apply below_drew1 | refine below_set ?_ GE1326.out) | exact HB.out)) hb)
     clear BK1326
     clear HB
     have BK1326 := n0_
     have HB := n1_
     clear n0_ n1_
     (try clear hb)
     (try clear hb2)
     (try clear hk)
     (try clear hi)
     try go_wp2
     go_ret2
     exact ⟨by first | rfl | (simp [errW_none, errW_some] <;> rfl) | (simp [*, errW_none, errW_some] <;> rfl), by repeat (first | (with_reducible first | exact HB.out | apply below_alloc | apply pw_below_drewN | apply below_drew1 | refine below_set ?_ GE1326.out) | exact HB.out)⟩
    ·
     rw [if_neg c21] at H
     have c21b0 : decide (2000 < (wrap64 ((wrap64 ((wrap64 (a1 - 1)) * t1330)) + (wrap64 ((wrap64 (a2 - 1)) * t1331))))) = false := decide_eq_false c21
     clear c21
     simp only [Option.some.injEq, Prod.mk.injEq] at H
     obtain ⟨rfl, rfl⟩ := H
     try go_wp2
     have n0_ := Aside0.mk (blk_drew BK1326.out)
     have n1_ := Aside0.mk (below_drew1 HB.out)
     clear BK1326
     clear HB
     have BK1326 := n0_
     have HB := n1_
     clear n0_ n1_
     refine BelowW.region (by kernel_rfl) (by kernel_rfl) ?_
     have hq0_ : wc.drew.cell? ⟨gb1326, 0, none⟩ = some (.int .i64 a0_0) := (blk_cell BK1326.out 0).trans rfl
     have hq1_ : wc.drew.cell? ⟨gb1326, 1, none⟩ = some (.int .i64 a0_1) := (blk_cell BK1326.out 1).trans rfl
     generalize wc.drew = w25 at BK1326 HB hq0_ hq1_ ⊢
     replace hq0_ := BelowW.at hq0_
     replace hq1_ := BelowW.at hq1_
     change wpQuiet _ _ _ _ (List.cons _ _) _
     repeat (go_big_quiet_step (first | (go_at_call 52; (with_reducible refine (impl_BarLong.calls a0_0 a0_1 t1330 _ A19.out).mono ?_); exact fun _ _ h_ => ⟨h_.1, BelowW.step _ h_.2⟩) | (go_at_call 114; (with_reducible refine (impl_Meter_beat.calls a0_0 a0_1 t1331 _ A20.out).mono ?_); exact fun _ _ h_ => ⟨h_.1, BelowW.step _ h_.2⟩)))
     refine wpQuiet_nil ?_
     intro w27 hb
     try simp only [i64_w, i32_w]
     clear hq0_ hq1_
     have n0_ := Aside0.mk (blk_below (g := gb1326) (o := .cells #[.int .i64 a0_0, .int .i64 a0_1] 73 (0, 0)) (by (with_reducible repeat (first | refine blk_drewN ?_ _ | refine blk_drew ?_ | refine blk_alloc ?_ _)); exact BK1326.out) hb)
     have n1_ := Aside0.mk (below_step (by repeat (first | (with_reducible first | exact HB.out | apply below_alloc | apply pw_below_drewN | apply below_drew1 | refine below_set ?_ GE1326.out) | exact HB.out)) hb)
     clear BK1326
     clear HB
     have BK1326 := n0_
     have HB := n1_
     clear n0_ n1_
     (try clear hb)
     (try clear hb2)
     (try clear hk)
     (try clear hi)
     try go_wp2
     go_ret2
     exact ⟨by first | rfl | (simp [errW_none, errW_some] <;> rfl) | (simp [*, errW_none, errW_some] <;> rfl), by repeat (first | (with_reducible first | exact HB.out | apply below_alloc | apply pw_below_drewN | apply below_drew1 | refine below_set ?_ GE1326.out) | exact HB.out)⟩
end Go.Proofs.Ytbhlmeghbfmgiaa.F

namespace Go.Proofs.Ytbhlmeghbfmgiaa.F
open Go.RowKit Go.Proofs.YtbhlmeghbfmgiaaW.PrintWords Go.Proofs.YtbhlmeghbfmgiaaW.PrintLast Go.Proofs.YtbhlmeghbfmgiaaW.PrintMore
attribute [local go_sem] max2_int min2_int max_two min_two max_three min_three max_four min_four
set_option linter.unusedVariables false
set_option linter.unusedSimpArgs false
def spec_l8Event.f (s0_0 : List Int) (s0_1 : Int) (s0_2 : Int) : Option (Int × Int × Int × Int × Int × Int) := (spec_l1Below.f s0_0 s0_1 s0_2 20).bind fun bt122 => ((spec_l1Below.f s0_0 bt122.2.1 bt122.2.2 10).bind fun bt125 => ((spec_l1Below.f s0_0 bt125.2.1 bt125.2.2 18).bind fun bt128 => ((spec_l1Below.f s0_0 bt128.2.1 bt128.2.2 3).bind fun bt131 => (some (wrap64 (6 * bt122.1), wrap64 (3 * (wrap64 (1 + bt125.1))), wrap64 (55 + bt128.1), wrap64 (1 + bt131.1), bt131.2.1, bt131.2.2)))))
set_option maxHeartbeats 8000000 in
set_option maxRecDepth 100000 in
theorem spec_l8Event.calls (g : Nat) (s0_0 : List Int) (s0_1 : Int) (s0_2 : Int) (r1 : Int) (r2 : Int) (r3 : Int) (r4 : Int) (r5 : Int) (r6 : Int) (w0 w : World) (hI : IsS157 w0 w g s0_0 s0_1 s0_2) (hB : Below w0.heap.size w0 w) (h : spec_l8Event.f s0_0 s0_1 s0_2 = some (r1, r2, r3, r4, r5, r6)) :
  Calls Try.prog 76 #[.pointer (some ⟨g, 0, none⟩)] w fun e w' => e = .returned (.agg #[.int .i64 r1, .int .i64 r2, .int .i64 r3, .int .i64 r4]) ∧ IsS157 w0 w' g s0_0 r5 r6 ∧ Below w0.heap.size w0 w' ∧ KeepBut w w' g none := by
 have hu26 := Try.underlying26
 have HI0 := Aside0.mk hI
 have HK := Aside0.mk (KeepBut.refl w g none)
 have HL := Aside0.mk hB.size
 clear hI
 have HW0 := Aside0.mk hB.size
 have HB := Aside0.mk hB
 clear hB
 have H : ((spec_l1Below.f s0_0 s0_1 s0_2 20).bind fun bt122 => ((spec_l1Below.f s0_0 bt122.2.1 bt122.2.2 10).bind fun bt125 => ((spec_l1Below.f s0_0 bt125.2.1 bt125.2.2 18).bind fun bt128 => ((spec_l1Below.f s0_0 bt128.2.1 bt128.2.2 3).bind fun bt131 => (some (wrap64 (6 * bt122.1), wrap64 (3 * (wrap64 (1 + bt125.1))), wrap64 (55 + bt128.1), wrap64 (1 + bt131.1), bt131.2.1, bt131.2.2)))))) = some (r1, r2, r3, r4, r5, r6) := h
 clear h
 replace H := Option.bind_eq_some_iff.mp H
 obtain ⟨⟨t122, t123, t124⟩, A20, H⟩ := H
 try dsimp only at H
 have A2 := Aside0.mk A20
 clear A20
 replace H := Option.bind_eq_some_iff.mp H
 obtain ⟨⟨t125, t126, t127⟩, A30, H⟩ := H
 try dsimp only at H
 have A3 := Aside0.mk A30
 clear A30
 replace H := Option.bind_eq_some_iff.mp H
 obtain ⟨⟨t128, t129, t130⟩, A40, H⟩ := H
 try dsimp only at H
 have A4 := Aside0.mk A40
 clear A40
 replace H := Option.bind_eq_some_iff.mp H
 obtain ⟨⟨t131, t132, t133⟩, A50, H⟩ := H
 try dsimp only at H
 have A5 := Aside0.mk A50
 clear A50
 simp only [Option.some.injEq, Prod.mk.injEq] at H
 obtain ⟨rfl, rfl, rfl, rfl, rfl, rfl⟩ := H
 go_enter Try.func76, Try.ntmps76
 go_wp2_with (first | ((with_reducible refine gate_dst (N := 2) rfl ?_); refine box_event ?hg (N := 2) ?hd (cs := #[.int .i64 0, .int .i64 0, .int .i64 0, .int .i64 0]) (t := 26) ?hr ?_; (case hd => rfl); (case hg => rfl); (case hr => first | (go_simp; done) | (go_simp; rfl)); intro gb121 hg w6 hbox hb; have n0_ := Aside0.mk (IsS157.below (by repeat (first | (with_reducible first | exact HI0.out | apply IsS157.alloc | apply IsS157.drewN | apply IsS157.drew | apply IsS157.set_1 | apply IsS157.set_2) | exact HI0.out)) hb); have n1_ := Aside0.mk (KeepBut.trans (by repeat (first | (with_reducible first | exact HK.out | apply KeepBut.set_ | apply keep_drewN | apply keep_drew | apply keep_alloc) | exact HK.out)) (KeepBut.of_below hb g none) (.inl rfl)); have n2_ := Aside0.mk (below_step (by repeat (first | (with_reducible first | exact HB.out | apply below_alloc | apply pw_below_drewN | apply below_drew1 | refine below_set ?_ (IsS157.ge HI0.out)) | exact HB.out)) hb); have n3_ := Aside0.mk (hbox); have n4_ := Aside0.mk ((by rw [hg]; exact (keep_size (w := w) (g := g) (row := none) (by repeat (first | (with_reducible first | exact HK.out | apply KeepBut.set_ | apply keep_drewN | apply keep_drew | apply keep_alloc) | exact HK.out))) : w.heap.size ≤ gb121)); have n5_ := Aside0.mk ((Nat.le_trans HW0.out (by rw [hg]; exact (keep_size (w := w) (g := g) (row := none) (by repeat (first | (with_reducible first | exact HK.out | apply KeepBut.set_ | apply keep_drewN | apply keep_drew | apply keep_alloc) | exact HK.out))) : w.heap.size ≤ gb121) : w0.heap.size ≤ gb121)); have n6_ := Aside0.mk ((by rw [hg]; exact Nat.ne_of_lt (IsS157.lt (show IsS157 w0 _ g s0_0 s0_1 s0_2 from by repeat (first | (with_reducible first | exact HI0.out | apply IsS157.alloc | apply IsS157.drewN | apply IsS157.drew | apply IsS157.set_1 | apply IsS157.set_2) | exact HI0.out))) : g ≠ gb121)); have n7_ := Aside0.mk ((by rw [hg]; exact Nat.ne_of_gt (IsS157.lt (show IsS157 w0 _ g s0_0 s0_1 s0_2 from by repeat (first | (with_reducible first | exact HI0.out | apply IsS157.alloc | apply IsS157.drewN | apply IsS157.drew | apply IsS157.set_1 | apply IsS157.set_2) | exact HI0.out))) : gb121 ≠ g)); clear HI0; clear HK; clear HB; have HI0 := n0_; have HK := n1_; have HB := n2_; have BK121 := n3_; have GW121 := n4_; have GE121 := n5_; have NB0_121 := n6_; have NB121_0 := n7_; clear n0_ n1_ n2_ n3_ n4_ n5_ n6_ n7_; clear hb hbox hg) | ((with_reducible refine gate_callee (f := 91) rfl ?_); refine goesL_ (some 4) rfl rfl Try.func91 (by kernel_rfl) rfl #[.pointer (some ⟨g, 0, none⟩), .int .i64 20] rfl (by (try simp only [List.map_toArray, List.map_cons, List.map_nil]); first | done | rfl | (simp only [List.length_drop, List.length_take]; rfl)) ?_; (with_reducible refine (spec_l1Below.calls g s0_0 s0_1 s0_2 20 t122 t123 t124 w0 _ ?side1 ?side2 A2.out).mono ?_); (case side1 => repeat (first | (with_reducible first | exact HI0.out | apply IsS157.alloc | apply IsS157.drewN | apply IsS157.drew | apply IsS157.set_1 | apply IsS157.set_2 | refine IsS157.far ?_ NB0_121.out _) | exact HI0.out)); (case side2 => repeat (first | (with_reducible first | exact HB.out | apply below_alloc | apply pw_below_drewN | apply below_drew1 | refine below_set ?_ (IsS157.ge HI0.out) | refine below_set ?_ GE121.out) | exact HB.out)); rintro e w7 ⟨rfl, hi, hb, hk⟩; refine ⟨_, rfl, ?_⟩; have n0_ := Aside0.mk (KeepBut.blk hk (g' := gb121) (o := .cells #[.int .i64 0, .int .i64 0, .int .i64 0, .int .i64 0] 26 (0, 0)) (by (with_reducible repeat (first | refine blk_drewN ?_ _ | refine blk_drew ?_ | refine blk_alloc ?_ _)); exact BK121.out) NB121_0.out (by simp)); have n1_ := Aside0.mk (KeepBut.trans (by repeat (first | (with_reducible first | exact HK.out | apply KeepBut.set_ | apply keep_drewN | apply keep_drew | apply keep_alloc | refine keep_far ?_ GW121.out _) | exact HK.out)) hk (.inl rfl)); have n2_ := Aside0.mk (hb); have n3_ := Aside0.mk (hi); clear BK121; clear HK; clear HB; clear HI0; have BK121 := n0_; have HK := n1_; have HB := n2_; have HI0 := n3_; clear n0_ n1_ n2_ n3_; (try clear hb); (try clear hb2); (try clear hk); (try clear hi)) | ((with_reducible refine gate_callee (f := 91) rfl ?_); refine goesL_ (some 7) rfl rfl Try.func91 (by kernel_rfl) rfl #[.pointer (some ⟨g, 0, none⟩), .int .i64 10] rfl (by (try simp only [List.map_toArray, List.map_cons, List.map_nil]); first | done | rfl | (simp only [List.length_drop, List.length_take]; rfl)) ?_; (with_reducible refine (spec_l1Below.calls g s0_0 t123 t124 10 t125 t126 t127 w0 _ ?side1 ?side2 A3.out).mono ?_); (case side1 => repeat (first | (with_reducible first | exact HI0.out | apply IsS157.alloc | apply IsS157.drewN | apply IsS157.drew | apply IsS157.set_1 | apply IsS157.set_2 | refine IsS157.far ?_ NB0_121.out _) | exact HI0.out)); (case side2 => repeat (first | (with_reducible first | exact HB.out | apply below_alloc | apply pw_below_drewN | apply below_drew1 | refine below_set ?_ (IsS157.ge HI0.out) | refine below_set ?_ GE121.out) | exact HB.out)); rintro e w8 ⟨rfl, hi, hb, hk⟩; refine ⟨_, rfl, ?_⟩; have n0_ := Aside0.mk (KeepBut.blk hk (g' := gb121) (o := .cells #[.int .i64 0, .int .i64 0, .int .i64 0, .int .i64 0] 26 (0, 0)) (by (with_reducible repeat (first | refine blk_drewN ?_ _ | refine blk_drew ?_ | refine blk_alloc ?_ _)); exact BK121.out) NB121_0.out (by simp)); have n1_ := Aside0.mk (KeepBut.trans (by repeat (first | (with_reducible first | exact HK.out | apply KeepBut.set_ | apply keep_drewN | apply keep_drew | apply keep_alloc | refine keep_far ?_ GW121.out _) | exact HK.out)) hk (.inl rfl)); have n2_ := Aside0.mk (hb); have n3_ := Aside0.mk (hi); clear BK121; clear HK; clear HB; clear HI0; have BK121 := n0_; have HK := n1_; have HB := n2_; have HI0 := n3_; clear n0_ n1_ n2_ n3_; (try clear hb); (try clear hb2); (try clear hk); (try clear hi)) | ((with_reducible refine gate_callee (f := 91) rfl ?_); refine goesL_ (some 11) rfl rfl Try.func91 (by kernel_rfl) rfl #[.pointer (some ⟨g, 0, none⟩), .int .i64 18] rfl (by (try simp only [List.map_toArray, List.map_cons, List.map_nil]); first | done | rfl | (simp only [List.length_drop, List.length_take]; rfl)) ?_; (with_reducible refine (spec_l1Below.calls g s0_0 t126 t127 18 t128 t129 t130 w0 _ ?side1 ?side2 A4.out).mono ?_); (case side1 => repeat (first | (with_reducible first | exact HI0.out | apply IsS157.alloc | apply IsS157.drewN | apply IsS157.drew | apply IsS157.set_1 | apply IsS157.set_2 | refine IsS157.far ?_ NB0_121.out _) | exact HI0.out)); (case side2 => repeat (first | (with_reducible first | exact HB.out | apply below_alloc | apply pw_below_drewN | apply below_drew1 | refine below_set ?_ (IsS157.ge HI0.out) | refine below_set ?_ GE121.out) | exact HB.out)); rintro e w9 ⟨rfl, hi, hb, hk⟩; refine ⟨_, rfl, ?_⟩; have n0_ := Aside0.mk (KeepBut.blk hk (g' := gb121) (o := .cells #[.int .i64 0, .int .i64 0, .int .i64 0, .int .i64 0] 26 (0, 0)) (by (with_reducible repeat (first | refine blk_drewN ?_ _ | refine blk_drew ?_ | refine blk_alloc ?_ _)); exact BK121.out) NB121_0.out (by simp)); have n1_ := Aside0.mk (KeepBut.trans (by repeat (first | (with_reducible first | exact HK.out | apply KeepBut.set_ | apply keep_drewN | apply keep_drew | apply keep_alloc | refine keep_far ?_ GW121.out _) | exact HK.out)) hk (.inl rfl)); have n2_ := Aside0.mk (hb); have n3_ := Aside0.mk (hi); clear BK121; clear HK; clear HB; clear HI0; have BK121 := n0_; have HK := n1_; have HB := n2_; have HI0 := n3_; clear n0_ n1_ n2_ n3_; (try clear hb); (try clear hb2); (try clear hk); (try clear hi)) | ((with_reducible refine gate_callee (f := 91) rfl ?_); refine goesL_ (some 14) rfl rfl Try.func91 (by kernel_rfl) rfl #[.pointer (some ⟨g, 0, none⟩), .int .i64 3] rfl (by (try simp only [List.map_toArray, List.map_cons, List.map_nil]); first | done | rfl | (simp only [List.length_drop, List.length_take]; rfl)) ?_; (with_reducible refine (spec_l1Below.calls g s0_0 t129 t130 3 t131 t132 t133 w0 _ ?side1 ?side2 A5.out).mono ?_); (case side1 => repeat (first | (with_reducible first | exact HI0.out | apply IsS157.alloc | apply IsS157.drewN | apply IsS157.drew | apply IsS157.set_1 | apply IsS157.set_2 | refine IsS157.far ?_ NB0_121.out _) | exact HI0.out)); (case side2 => repeat (first | (with_reducible first | exact HB.out | apply below_alloc | apply pw_below_drewN | apply below_drew1 | refine below_set ?_ (IsS157.ge HI0.out) | refine below_set ?_ GE121.out) | exact HB.out)); rintro e w10 ⟨rfl, hi, hb, hk⟩; refine ⟨_, rfl, ?_⟩; have n0_ := Aside0.mk (KeepBut.blk hk (g' := gb121) (o := .cells #[.int .i64 0, .int .i64 0, .int .i64 0, .int .i64 0] 26 (0, 0)) (by (with_reducible repeat (first | refine blk_drewN ?_ _ | refine blk_drew ?_ | refine blk_alloc ?_ _)); exact BK121.out) NB121_0.out (by simp)); have n1_ := Aside0.mk (KeepBut.trans (by repeat (first | (with_reducible first | exact HK.out | apply KeepBut.set_ | apply keep_drewN | apply keep_drew | apply keep_alloc | refine keep_far ?_ GW121.out _) | exact HK.out)) hk (.inl rfl)); have n2_ := Aside0.mk (hb); have n3_ := Aside0.mk (hi); clear BK121; clear HK; clear HB; clear HI0; have BK121 := n0_; have HK := n1_; have HB := n2_; have HI0 := n3_; clear n0_ n1_ n2_ n3_; (try clear hb); (try clear hb2); (try clear hk); (try clear hi); have hnb11 := NB121_0.out; have hnc11 := NB0_121.out; have hcz12_0 : w10.cell? ⟨gb121, 0, none⟩ = some (.int .i64 0) := (blk_cell BK121.out 0).trans rfl; have hcz12_1 : w10.cell? ⟨gb121, 1, none⟩ = some (.int .i64 0) := (blk_cell BK121.out 1).trans rfl; have hcz12_2 : w10.cell? ⟨gb121, 2, none⟩ = some (.int .i64 0) := (blk_cell BK121.out 2).trans rfl; have hcz12_3 : w10.cell? ⟨gb121, 3, none⟩ = some (.int .i64 0) := (blk_cell BK121.out 3).trans rfl; have hfz12_0 := blk_frozen BK121.out 0; have hfz12_1 := blk_frozen BK121.out 1; have hfz12_2 := blk_frozen BK121.out 2; have hfz12_3 := blk_frozen BK121.out 3))
 refine bodyPost_ret (results_cell_row rfl _ _ gb121 26 #[.int .i64 (wrap64 (6 * t122)), .int .i64 (wrap64 (3 * (wrap64 (1 + t125)))), .int .i64 (wrap64 (55 + t128)), .int .i64 (wrap64 (1 + t131))] (0, 0) _ rfl (by (with_reducible repeat (first | refine blk_drewN ?_ _ | refine blk_drew ?_ | refine blk_alloc ?_ _)); refine blk_put (cs := #[.int .i64 (wrap64 (6 * t122)), .int .i64 (wrap64 (3 * (wrap64 (1 + t125)))), .int .i64 (wrap64 (55 + t128)), .int .i64 0]) ?_ 3 _ rfl; (with_reducible repeat (first | refine blk_drewN ?_ _ | refine blk_drew ?_ | refine blk_alloc ?_ _)); refine blk_put (cs := #[.int .i64 (wrap64 (6 * t122)), .int .i64 (wrap64 (3 * (wrap64 (1 + t125)))), .int .i64 0, .int .i64 0]) ?_ 2 _ rfl; (with_reducible repeat (first | refine blk_drewN ?_ _ | refine blk_drew ?_ | refine blk_alloc ?_ _)); refine blk_put (cs := #[.int .i64 (wrap64 (6 * t122)), .int .i64 0, .int .i64 0, .int .i64 0]) ?_ 1 _ rfl; (with_reducible repeat (first | refine blk_drewN ?_ _ | refine blk_drew ?_ | refine blk_alloc ?_ _)); refine blk_put (cs := #[.int .i64 0, .int .i64 0, .int .i64 0, .int .i64 0]) ?_ 0 _ rfl; (with_reducible repeat (first | refine blk_drewN ?_ _ | refine blk_drew ?_ | refine blk_alloc ?_ _)); exact BK121.out) Try.underlying26 rfl (by kernel_rfl)) rfl ?_
 exact ⟨by first | rfl | (simp [errW_none, errW_some] <;> rfl) | (simp [*, errW_none, errW_some] <;> rfl), by repeat (first | (with_reducible first | exact HI0.out | apply IsS157.alloc | apply IsS157.drewN | apply IsS157.drew | apply IsS157.set_1 | apply IsS157.set_2 | refine IsS157.far ?_ NB0_121.out _) | exact HI0.out), by repeat (first | (with_reducible first | exact HB.out | apply below_alloc | apply pw_below_drewN | apply below_drew1 | refine below_set ?_ (IsS157.ge HI0.out) | refine below_set ?_ GE121.out) | exact HB.out), by repeat (first | (with_reducible first | exact HK.out | apply KeepBut.set_ | apply keep_drewN | apply keep_drew | apply keep_alloc | refine keep_far ?_ GW121.out _) | exact HK.out)⟩
end Go.Proofs.Ytbhlmeghbfmgiaa.F

namespace Go.Proofs.Ytbhlmeghbfmgiaa.F
open Go.RowKit Go.Proofs.YtbhlmeghbfmgiaaW.PrintWords Go.Proofs.YtbhlmeghbfmgiaaW.PrintLast Go.Proofs.YtbhlmeghbfmgiaaW.PrintMore
attribute [local go_sem] max2_int min2_int max_two min_two max_three min_three max_four min_four
set_option linter.unusedVariables false
set_option linter.unusedSimpArgs false
def spec_DrawPiecesOf.f (k : Nat) (l0 : List Int) : Option (Int × Int × Int × Int × Int × Int) := (spec_l1New.f k l0).bind fun bt1334 => ((spec_l10Any.f bt1334.1 bt1334.2.1 bt1334.2.2).bind fun bt1338 => ((spec_l8Event.f bt1334.1 bt1338.2.2.1 bt1338.2.2.2).bind fun bt1343 => ((spec_l1Below.f bt1334.1 bt1343.2.2.2.2.1 bt1343.2.2.2.2.2 7).bind fun bt1350 => (if bt1350.1 = 0 then ((spec_l1Int.f bt1334.1 bt1350.2.1 bt1350.2.2 (([(-1), 2000, 2001] : List Int))).bind fun bt1356 => (some (bt1338.1, bt1338.2.1, bt1356.1, bt1343.2.1, bt1343.2.2.1, bt1343.2.2.2.1))) else (if bt1350.1 = 1 then ((spec_l1Int.f bt1334.1 bt1350.2.1 bt1350.2.2 (([0, 96, 97] : List Int))).bind fun bt1362 => (some (bt1338.1, bt1338.2.1, bt1343.1, bt1362.1, bt1343.2.2.1, bt1343.2.2.2.1))) else (some (bt1338.1, bt1338.2.1, bt1343.1, bt1343.2.1, bt1343.2.2.1, bt1343.2.2.2.1)))))))
set_option maxHeartbeats 8000000 in
set_option maxRecDepth 100000 in
theorem spec_DrawPiecesOf.calls (k : Nat) (A0 : Option Addr) (c0 : Nat) (l0 : List Int) (r1 : Int) (r2 : Int) (r3 : Int) (r4 : Int) (r5 : Int) (r6 : Int) (w : World) (hr0 : Kd.C (Kd.int .u8) w A0 l0.length l0) (hc0 : l0.length ≤ c0) (h : spec_DrawPiecesOf.f k l0 = some (r1, r2, r3, r4, r5, r6)) :
  Calls Try.prog 49 #[.slice A0 l0.length c0] w fun e w' => e = .returned (.tuple #[.agg #[.int .i64 r1, .int .i64 r2], .agg #[.int .i64 r3, .int .i64 r4, .int .i64 r5, .int .i64 r6]]) ∧ Below w.heap.size w w' := by
 have hu73 := Try.underlying73
 have hu26 := Try.underlying26
 have HR0 := Aside0.mk hr0
 have HC0 := Aside0.mk hc0
 clear hr0 hc0
 have HB := Aside0.mk (Below.refl w.heap.size w)
 have H : ((spec_l1New.f k l0).bind fun bt1334 => ((spec_l10Any.f bt1334.1 bt1334.2.1 bt1334.2.2).bind fun bt1338 => ((spec_l8Event.f bt1334.1 bt1338.2.2.1 bt1338.2.2.2).bind fun bt1343 => ((spec_l1Below.f bt1334.1 bt1343.2.2.2.2.1 bt1343.2.2.2.2.2 7).bind fun bt1350 => (if bt1350.1 = 0 then ((spec_l1Int.f bt1334.1 bt1350.2.1 bt1350.2.2 (([(-1), 2000, 2001] : List Int))).bind fun bt1356 => (some (bt1338.1, bt1338.2.1, bt1356.1, bt1343.2.1, bt1343.2.2.1, bt1343.2.2.2.1))) else (if bt1350.1 = 1 then ((spec_l1Int.f bt1334.1 bt1350.2.1 bt1350.2.2 (([0, 96, 97] : List Int))).bind fun bt1362 => (some (bt1338.1, bt1338.2.1, bt1343.1, bt1362.1, bt1343.2.2.1, bt1343.2.2.2.1))) else (some (bt1338.1, bt1338.2.1, bt1343.1, bt1343.2.1, bt1343.2.2.1, bt1343.2.2.2.1)))))))) = some (r1, r2, r3, r4, r5, r6) := h
 clear h
 replace H := Option.bind_eq_some_iff.mp H
 obtain ⟨⟨t1334, t1335, t1336⟩, A20, H⟩ := H
 try dsimp only at H
 have A2 := Aside0.mk A20
 clear A20
 replace H := Option.bind_eq_some_iff.mp H
 obtain ⟨⟨t1338, t1339, t1340, t1341⟩, A30, H⟩ := H
 try dsimp only at H
 have A3 := Aside0.mk A30
 clear A30
 replace H := Option.bind_eq_some_iff.mp H
 obtain ⟨⟨t1343, t1344, t1345, t1346, t1347, t1348⟩, A40, H⟩ := H
 try dsimp only at H
 have A4 := Aside0.mk A40
 clear A40
 replace H := Option.bind_eq_some_iff.mp H
 obtain ⟨⟨t1350, t1351, t1352⟩, A50, H⟩ := H
 try dsimp only at H
 have A5 := Aside0.mk A50
 clear A50
 by_cases c6 : t1350 = 0
 ·
  rw [if_pos c6] at H
  have c6b0 : (t1350 == 0) = true := beq_iff_eq.mpr c6
  have c6b1 : (t1350 != 0) = false := bne_eq_false_iff_eq.mpr c6
  clear c6
  obtain ⟨y1353, hy1353⟩ : ∃ y_ : List Int, y_ = (([(-1), 2000, 2001] : List Int)) := ⟨_, rfl⟩
  replace H : ((spec_l1Int.f t1334 t1351 t1352 y1353).bind fun bt1356 => (some (t1338, t1339, bt1356.1, t1344, t1345, t1346))) = some (r1, r2, r3, r4, r5, r6) := by first | (rw [hy1353]; with_reducible exact H) | (have H2_ := (Option.bind_some _ _).symm.trans H; rw [hy1353]; with_reducible exact H2_) | (have H2_ := (Option.bind_some _ _).symm.trans H; with_reducible exact H2_) | with_reducible exact H | (rw [hy1353]; exact H) | exact H
  have Ny1353 := Aside0.mk hy1353
  clear hy1353
  replace H := Option.bind_eq_some_iff.mp H
  obtain ⟨⟨t1356, t1357, t1358⟩, A70, H⟩ := H
  try dsimp only at H
  have A7 := Aside0.mk A70
  clear A70
  simp only [Option.some.injEq, Prod.mk.injEq] at H
  obtain ⟨rfl, rfl, rfl, rfl, rfl, rfl⟩ := H
  go_enter Try.func49, Try.ntmps49
  try go_wp2_with (first | ((with_reducible refine gate_dst (N := 2) rfl ?_); refine box_event ?hg (N := 2) ?hd (cs := #[.int .i64 0, .int .i64 0]) (t := 73) ?hr ?_; (case hd => rfl); (case hg => rfl); (case hr => first | (go_simp; done) | (go_simp; rfl)); intro gb1332 hg w8 hbox hb; have n0_ := Aside0.mk (below_step (by repeat (first | (with_reducible first | exact HB.out | apply below_alloc | apply pw_below_drewN | apply below_drew1) | exact HB.out)) hb); have n1_ := Aside0.mk (hbox); have n2_ := Aside0.mk ((by rw [hg]; exact (below_size (by repeat (first | (with_reducible first | exact HB.out | apply below_alloc | apply pw_below_drewN | apply below_drew1) | exact HB.out))) : w.heap.size ≤ gb1332)); have n3_ := Aside0.mk ((by rw [hg]; exact (below_size (by repeat (first | (with_reducible first | exact HB.out | apply below_alloc | apply pw_below_drewN | apply below_drew1) | exact HB.out))) : w.heap.size ≤ gb1332)); clear HB; have HB := n0_; have BK1332 := n1_; have GW1332 := n2_; have GE1332 := n3_; clear n0_ n1_ n2_ n3_; clear hb hbox hg) | ((with_reducible refine gate_dst (N := 3) rfl ?_); refine box_event ?hg (N := 3) ?hd (cs := #[.int .i64 0, .int .i64 0, .int .i64 0, .int .i64 0]) (t := 26) ?hr ?_; (case hd => rfl); (case hg => rfl); (case hr => first | (go_simp; done) | (go_simp; rfl)); intro gb1333 hg w9 hbox hb; have n0_ := Aside0.mk (blk_below (g := gb1332) (o := .cells #[.int .i64 0, .int .i64 0] 73 (0, 0)) (by (with_reducible repeat (first | refine blk_drewN ?_ _ | refine blk_drew ?_ | refine blk_alloc ?_ _)); exact BK1332.out) hb); have n1_ := Aside0.mk (below_step (by repeat (first | (with_reducible first | exact HB.out | apply below_alloc | apply pw_below_drewN | apply below_drew1 | refine below_set ?_ GE1332.out) | exact HB.out)) hb); have n2_ := Aside0.mk (hbox); have n3_ := Aside0.mk ((by rw [hg]; exact (below_size (by repeat (first | (with_reducible first | exact HB.out | apply below_alloc | apply pw_below_drewN | apply below_drew1 | refine below_set ?_ GE1332.out) | exact HB.out))) : w.heap.size ≤ gb1333)); have n4_ := Aside0.mk ((by rw [hg]; exact (below_size (by repeat (first | (with_reducible first | exact HB.out | apply below_alloc | apply pw_below_drewN | apply below_drew1 | refine below_set ?_ GE1332.out) | exact HB.out))) : w.heap.size ≤ gb1333)); have n5_ := Aside0.mk ((by rw [hg]; exact Nat.ne_of_lt (blk_lt (g := gb1332) (o := .cells #[.int .i64 0, .int .i64 0] 73 (0, 0)) (by (with_reducible repeat (first | refine blk_drewN ?_ _ | refine blk_drew ?_ | refine blk_alloc ?_ _)); exact BK1332.out)) : gb1332 ≠ gb1333)); have n6_ := Aside0.mk ((by rw [hg]; exact Nat.ne_of_gt (blk_lt (g := gb1332) (o := .cells #[.int .i64 0, .int .i64 0] 73 (0, 0)) (by (with_reducible repeat (first | refine blk_drewN ?_ _ | refine blk_drew ?_ | refine blk_alloc ?_ _)); exact BK1332.out)) : gb1333 ≠ gb1332)); clear BK1332; clear HB; have BK1332 := n0_; have HB := n1_; have BK1333 := n2_; have GW1333 := n3_; have GE1333 := n4_; have NB1332_1333 := n5_; have NB1333_1332 := n6_; clear n0_ n1_ n2_ n3_ n4_ n5_ n6_; clear hb hbox hg) | ((with_reducible refine gate_callee (f := 74) rfl ?_); refine goesL_ (some 8) rfl rfl Try.func74 (by kernel_rfl) rfl #[.slice A0 l0.length c0] rfl (by (try simp only [List.map_toArray, List.map_cons, List.map_nil]); first | done | rfl | (simp only [List.length_drop, List.length_take]; rfl)) ?_; (with_reducible refine (spec_l1New.calls k _ _ l0 t1334 t1335 t1336 w _ ?side1 ?side2 ?side3 A2.out).mono ?_); (case side1 => repeat (first | (with_reducible first | exact HB.out | apply below_alloc | apply pw_below_drewN | apply below_drew1 | refine below_set ?_ GE1332.out | refine below_set ?_ GE1333.out) | exact HB.out)); (case side2 => exact HR0.out); (case side3 => exact HC0.out); rintro e w10 ⟨g1337, rfl, hi, hb, hb2⟩; refine ⟨_, rfl, ?_⟩; have n0_ := Aside0.mk (blk_below (g := gb1332) (o := .cells #[.int .i64 0, .int .i64 0] 73 (0, 0)) (by (with_reducible repeat (first | refine blk_drewN ?_ _ | refine blk_drew ?_ | refine blk_alloc ?_ _)); exact BK1332.out) hb2); have n1_ := Aside0.mk (blk_below (g := gb1333) (o := .cells #[.int .i64 0, .int .i64 0, .int .i64 0, .int .i64 0] 26 (0, 0)) (by (with_reducible repeat (first | refine blk_drewN ?_ _ | refine blk_drew ?_ | refine blk_alloc ?_ _)); exact BK1333.out) hb2); have n2_ := Aside0.mk (hb); have n3_ := Aside0.mk (hi); have n4_ := Aside0.mk (IsS157.ne_blk hi (blk_below (g := gb1332) (o := .cells #[.int .i64 0, .int .i64 0] 73 (0, 0)) (by (with_reducible repeat (first | refine blk_drewN ?_ _ | refine blk_drew ?_ | refine blk_alloc ?_ _)); exact BK1332.out) hb2) (by decide)); have n5_ := Aside0.mk (Ne.symm (IsS157.ne_blk hi (blk_below (g := gb1332) (o := .cells #[.int .i64 0, .int .i64 0] 73 (0, 0)) (by (with_reducible repeat (first | refine blk_drewN ?_ _ | refine blk_drew ?_ | refine blk_alloc ?_ _)); exact BK1332.out) hb2) (by decide))); have n6_ := Aside0.mk (IsS157.ne_blk hi (blk_below (g := gb1333) (o := .cells #[.int .i64 0, .int .i64 0, .int .i64 0, .int .i64 0] 26 (0, 0)) (by (with_reducible repeat (first | refine blk_drewN ?_ _ | refine blk_drew ?_ | refine blk_alloc ?_ _)); exact BK1333.out) hb2) (by decide)); have n7_ := Aside0.mk (Ne.symm (IsS157.ne_blk hi (blk_below (g := gb1333) (o := .cells #[.int .i64 0, .int .i64 0, .int .i64 0, .int .i64 0] 26 (0, 0)) (by (with_reducible repeat (first | refine blk_drewN ?_ _ | refine blk_drew ?_ | refine blk_alloc ?_ _)); exact BK1333.out) hb2) (by decide))); clear BK1332; clear BK1333; clear HB; have BK1332 := n0_; have BK1333 := n1_; have HB := n2_; have HI1337 := n3_; have NB1337_1332 := n4_; have NB1332_1337 := n5_; have NB1337_1333 := n6_; have NB1333_1337 := n7_; clear n0_ n1_ n2_ n3_ n4_ n5_ n6_ n7_; (try clear hb); (try clear hb2); (try clear hk); (try clear hi)) | ((with_reducible refine gate_callee (f := 113) rfl ?_); refine goesL_ (some 10) rfl rfl Try.func113 (by kernel_rfl) rfl #[.pointer (some ⟨g1337, 0, none⟩)] rfl (by (try simp only [List.map_toArray, List.map_cons, List.map_nil]); first | done | rfl | (simp only [List.length_drop, List.length_take]; rfl)) ?_; (with_reducible refine (spec_l10Any.calls g1337 t1334 t1335 t1336 t1338 t1339 t1340 t1341 w _ ?side1 ?side2 A3.out).mono ?_); (case side1 => repeat (first | (with_reducible first | exact HI1337.out | apply IsS157.alloc | apply IsS157.drewN | apply IsS157.drew | apply IsS157.set_1 | apply IsS157.set_2 | refine IsS157.far ?_ NB1337_1332.out _ | refine IsS157.far ?_ NB1337_1333.out _) | exact HI1337.out)); (case side2 => repeat (first | (with_reducible first | exact HB.out | apply below_alloc | apply pw_below_drewN | apply below_drew1 | refine below_set ?_ (IsS157.ge HI1337.out) | refine below_set ?_ GE1332.out | refine below_set ?_ GE1333.out) | exact HB.out)); rintro e w11 ⟨rfl, hi, hb, hk⟩; refine ⟨_, rfl, ?_⟩; have n0_ := Aside0.mk (KeepBut.blk hk (g' := gb1332) (o := .cells #[.int .i64 0, .int .i64 0] 73 (0, 0)) (by (with_reducible repeat (first | refine blk_drewN ?_ _ | refine blk_drew ?_ | refine blk_alloc ?_ _)); exact BK1332.out) NB1332_1337.out (by simp)); have n1_ := Aside0.mk (KeepBut.blk hk (g' := gb1333) (o := .cells #[.int .i64 0, .int .i64 0, .int .i64 0, .int .i64 0] 26 (0, 0)) (by (with_reducible repeat (first | refine blk_drewN ?_ _ | refine blk_drew ?_ | refine blk_alloc ?_ _)); exact BK1333.out) NB1333_1337.out (by simp)); have n2_ := Aside0.mk (hb); have n3_ := Aside0.mk (hi); clear BK1332; clear BK1333; clear HB; clear HI1337; have BK1332 := n0_; have BK1333 := n1_; have HB := n2_; have HI1337 := n3_; clear n0_ n1_ n2_ n3_; (try clear hb); (try clear hb2); (try clear hk); (try clear hi)) | ((with_reducible refine gate_dst (N := 5) rfl ?_); refine box_event ?hg (N := 5) ?hd (cs := #[.int .i64 0, .int .i64 0]) (t := 73) ?hr ?_; (case hd => rfl); (case hg => rfl); (case hr => first | (go_simp; done) | (go_simp; rfl)); intro gb1342 hg w12 hbox hb; have n0_ := Aside0.mk (blk_below (g := gb1332) (o := .cells #[.int .i64 0, .int .i64 0] 73 (0, 0)) (by (with_reducible repeat (first | refine blk_drewN ?_ _ | refine blk_drew ?_ | refine blk_alloc ?_ _)); exact BK1332.out) hb); have n1_ := Aside0.mk (blk_below (g := gb1333) (o := .cells #[.int .i64 0, .int .i64 0, .int .i64 0, .int .i64 0] 26 (0, 0)) (by (with_reducible repeat (first | refine blk_drewN ?_ _ | refine blk_drew ?_ | refine blk_alloc ?_ _)); exact BK1333.out) hb); have n2_ := Aside0.mk (IsS157.below (by repeat (first | (with_reducible first | exact HI1337.out | apply IsS157.alloc | apply IsS157.drewN | apply IsS157.drew | apply IsS157.set_1 | apply IsS157.set_2 | refine IsS157.far ?_ NB1337_1332.out _ | refine IsS157.far ?_ NB1337_1333.out _) | exact HI1337.out)) hb); have n3_ := Aside0.mk (below_step (by repeat (first | (with_reducible first | exact HB.out | apply below_alloc | apply pw_below_drewN | apply below_drew1 | refine below_set ?_ (IsS157.ge HI1337.out) | refine below_set ?_ GE1332.out | refine below_set ?_ GE1333.out) | exact HB.out)) hb); have n4_ := Aside0.mk (hbox); have n5_ := Aside0.mk ((by rw [hg]; exact (below_size (by repeat (first | (with_reducible first | exact HB.out | apply below_alloc | apply pw_below_drewN | apply below_drew1 | refine below_set ?_ (IsS157.ge HI1337.out) | refine below_set ?_ GE1332.out | refine below_set ?_ GE1333.out) | exact HB.out))) : w.heap.size ≤ gb1342)); have n6_ := Aside0.mk ((by rw [hg]; exact (below_size (by repeat (first | (with_reducible first | exact HB.out | apply below_alloc | apply pw_below_drewN | apply below_drew1 | refine below_set ?_ (IsS157.ge HI1337.out) | refine below_set ?_ GE1332.out | refine below_set ?_ GE1333.out) | exact HB.out))) : w.heap.size ≤ gb1342)); have n7_ := Aside0.mk ((by rw [hg]; exact Nat.ne_of_lt (blk_lt (g := gb1332) (o := .cells #[.int .i64 0, .int .i64 0] 73 (0, 0)) (by (with_reducible repeat (first | refine blk_drewN ?_ _ | refine blk_drew ?_ | refine blk_alloc ?_ _)); exact BK1332.out)) : gb1332 ≠ gb1342)); have n8_ := Aside0.mk ((by rw [hg]; exact Nat.ne_of_gt (blk_lt (g := gb1332) (o := .cells #[.int .i64 0, .int .i64 0] 73 (0, 0)) (by (with_reducible repeat (first | refine blk_drewN ?_ _ | refine blk_drew ?_ | refine blk_alloc ?_ _)); exact BK1332.out)) : gb1342 ≠ gb1332)); have n9_ := Aside0.mk ((by rw [hg]; exact Nat.ne_of_lt (blk_lt (g := gb1333) (o := .cells #[.int .i64 0, .int .i64 0, .int .i64 0, .int .i64 0] 26 (0, 0)) (by (with_reducible repeat (first | refine blk_drewN ?_ _ | refine blk_drew ?_ | refine blk_alloc ?_ _)); exact BK1333.out)) : gb1333 ≠ gb1342)); have n10_ := Aside0.mk ((by rw [hg]; exact Nat.ne_of_gt (blk_lt (g := gb1333) (o := .cells #[.int .i64 0, .int .i64 0, .int .i64 0, .int .i64 0] 26 (0, 0)) (by (with_reducible repeat (first | refine blk_drewN ?_ _ | refine blk_drew ?_ | refine blk_alloc ?_ _)); exact BK1333.out)) : gb1342 ≠ gb1333)); have n11_ := Aside0.mk ((by rw [hg]; exact Nat.ne_of_lt (IsS157.lt (show IsS157 w _ g1337 t1334 t1340 t1341 from by repeat (first | (with_reducible first | exact HI1337.out | apply IsS157.alloc | apply IsS157.drewN | apply IsS157.drew | apply IsS157.set_1 | apply IsS157.set_2 | refine IsS157.far ?_ NB1337_1332.out _ | refine IsS157.far ?_ NB1337_1333.out _) | exact HI1337.out))) : g1337 ≠ gb1342)); have n12_ := Aside0.mk ((by rw [hg]; exact Nat.ne_of_gt (IsS157.lt (show IsS157 w _ g1337 t1334 t1340 t1341 from by repeat (first | (with_reducible first | exact HI1337.out | apply IsS157.alloc | apply IsS157.drewN | apply IsS157.drew | apply IsS157.set_1 | apply IsS157.set_2 | refine IsS157.far ?_ NB1337_1332.out _ | refine IsS157.far ?_ NB1337_1333.out _) | exact HI1337.out))) : gb1342 ≠ g1337)); clear BK1332; clear BK1333; clear HI1337; clear HB; have BK1332 := n0_; have BK1333 := n1_; have HI1337 := n2_; have HB := n3_; have BK1342 := n4_; have GW1342 := n5_; have GE1342 := n6_; have NB1332_1342 := n7_; have NB1342_1332 := n8_; have NB1333_1342 := n9_; have NB1342_1333 := n10_; have NB1337_1342 := n11_; have NB1342_1337 := n12_; clear n0_ n1_ n2_ n3_ n4_ n5_ n6_ n7_ n8_ n9_ n10_ n11_ n12_; clear hb hbox hg; have hnb13 := NB1342_1332.out; have hnc13 := NB1332_1342.out; have hnb14 := NB1342_1333.out; have hnc14 := NB1333_1342.out; have hnb15 := NB1342_1337.out; have hnc15 := NB1337_1342.out; have hcz16_0 : w12.cell? ⟨gb1342, 0, none⟩ = some (.int .i64 0) := (blk_cell BK1342.out 0).trans rfl; have hcz16_1 : w12.cell? ⟨gb1342, 1, none⟩ = some (.int .i64 0) := (blk_cell BK1342.out 1).trans rfl; have hfz16_0 := blk_frozen BK1342.out 0; have hfz16_1 := blk_frozen BK1342.out 1) | ((with_reducible refine gate_callee (f := 76) rfl ?_); refine goesL_ (some 12) rfl rfl Try.func76 (by kernel_rfl) rfl #[.pointer (some ⟨g1337, 0, none⟩)] rfl (by (try simp only [List.map_toArray, List.map_cons, List.map_nil]); first | done | rfl | (simp only [List.length_drop, List.length_take]; rfl)) ?_; (with_reducible refine (spec_l8Event.calls g1337 t1334 t1340 t1341 t1343 t1344 t1345 t1346 t1347 t1348 w _ ?side1 ?side2 A4.out).mono ?_); (case side1 => repeat (first | (with_reducible first | exact HI1337.out | apply IsS157.alloc | apply IsS157.drewN | apply IsS157.drew | apply IsS157.set_1 | apply IsS157.set_2 | refine IsS157.far ?_ NB1337_1332.out _ | refine IsS157.far ?_ NB1337_1333.out _ | refine IsS157.far ?_ NB1337_1342.out _) | exact HI1337.out)); (case side2 => repeat (first | (with_reducible first | exact HB.out | apply below_alloc | apply pw_below_drewN | apply below_drew1 | refine below_set ?_ (IsS157.ge HI1337.out) | refine below_set ?_ GE1332.out | refine below_set ?_ GE1333.out | refine below_set ?_ GE1342.out) | exact HB.out)); rintro e w17 ⟨rfl, hi, hb, hk⟩; refine ⟨_, rfl, ?_⟩; have n0_ := Aside0.mk (KeepBut.blk hk (g' := gb1332) (o := .cells #[.int .i64 0, .int .i64 0] 73 (0, 0)) (by (with_reducible repeat (first | refine blk_drewN ?_ _ | refine blk_drew ?_ | refine blk_alloc ?_ _)); refine blk_far ?_ NB1332_1342.out _; (with_reducible repeat (first | refine blk_drewN ?_ _ | refine blk_drew ?_ | refine blk_alloc ?_ _)); refine blk_far ?_ NB1332_1342.out _; (with_reducible repeat (first | refine blk_drewN ?_ _ | refine blk_drew ?_ | refine blk_alloc ?_ _)); exact BK1332.out) NB1332_1337.out (by simp)); have n1_ := Aside0.mk (KeepBut.blk hk (g' := gb1333) (o := .cells #[.int .i64 0, .int .i64 0, .int .i64 0, .int .i64 0] 26 (0, 0)) (by (with_reducible repeat (first | refine blk_drewN ?_ _ | refine blk_drew ?_ | refine blk_alloc ?_ _)); refine blk_far ?_ NB1333_1342.out _; (with_reducible repeat (first | refine blk_drewN ?_ _ | refine blk_drew ?_ | refine blk_alloc ?_ _)); refine blk_far ?_ NB1333_1342.out _; (with_reducible repeat (first | refine blk_drewN ?_ _ | refine blk_drew ?_ | refine blk_alloc ?_ _)); exact BK1333.out) NB1333_1337.out (by simp)); have n2_ := Aside0.mk (KeepBut.blk hk (g' := gb1342) (o := .cells #[.int .i64 t1338, .int .i64 t1339] 73 (0, 0)) (by (with_reducible repeat (first | refine blk_drewN ?_ _ | refine blk_drew ?_ | refine blk_alloc ?_ _)); refine blk_put (cs := #[.int .i64 t1338, .int .i64 0]) ?_ 1 _ rfl; (with_reducible repeat (first | refine blk_drewN ?_ _ | refine blk_drew ?_ | refine blk_alloc ?_ _)); refine blk_put (cs := #[.int .i64 0, .int .i64 0]) ?_ 0 _ rfl; (with_reducible repeat (first | refine blk_drewN ?_ _ | refine blk_drew ?_ | refine blk_alloc ?_ _)); exact BK1342.out) NB1342_1337.out (by simp)); have n3_ := Aside0.mk (hb); have n4_ := Aside0.mk (hi); clear BK1332; clear BK1333; clear BK1342; clear HB; clear HI1337; have BK1332 := n0_; have BK1333 := n1_; have BK1342 := n2_; have HB := n3_; have HI1337 := n4_; clear n0_ n1_ n2_ n3_ n4_; (try clear hb); (try clear hb2); (try clear hk); (try clear hi)) | ((with_reducible refine gate_dst (N := 6) rfl ?_); refine box_event ?hg (N := 6) ?hd (cs := #[.int .i64 0, .int .i64 0, .int .i64 0, .int .i64 0]) (t := 26) ?hr ?_; (case hd => rfl); (case hg => rfl); (case hr => first | (go_simp; done) | (go_simp; rfl)); intro gb1349 hg w18 hbox hb; have n0_ := Aside0.mk (blk_below (g := gb1332) (o := .cells #[.int .i64 0, .int .i64 0] 73 (0, 0)) (by (with_reducible repeat (first | refine blk_drewN ?_ _ | refine blk_drew ?_ | refine blk_alloc ?_ _)); exact BK1332.out) hb); have n1_ := Aside0.mk (blk_below (g := gb1333) (o := .cells #[.int .i64 0, .int .i64 0, .int .i64 0, .int .i64 0] 26 (0, 0)) (by (with_reducible repeat (first | refine blk_drewN ?_ _ | refine blk_drew ?_ | refine blk_alloc ?_ _)); exact BK1333.out) hb); have n2_ := Aside0.mk (IsS157.below (by repeat (first | (with_reducible first | exact HI1337.out | apply IsS157.alloc | apply IsS157.drewN | apply IsS157.drew | apply IsS157.set_1 | apply IsS157.set_2 | refine IsS157.far ?_ NB1337_1332.out _ | refine IsS157.far ?_ NB1337_1333.out _ | refine IsS157.far ?_ NB1337_1342.out _) | exact HI1337.out)) hb); have n3_ := Aside0.mk (blk_below (g := gb1342) (o := .cells #[.int .i64 t1338, .int .i64 t1339] 73 (0, 0)) (by (with_reducible repeat (first | refine blk_drewN ?_ _ | refine blk_drew ?_ | refine blk_alloc ?_ _)); exact BK1342.out) hb); have n4_ := Aside0.mk (below_step (by repeat (first | (with_reducible first | exact HB.out | apply below_alloc | apply pw_below_drewN | apply below_drew1 | refine below_set ?_ (IsS157.ge HI1337.out) | refine below_set ?_ GE1332.out | refine below_set ?_ GE1333.out | refine below_set ?_ GE1342.out) | exact HB.out)) hb); have n5_ := Aside0.mk (hbox); have n6_ := Aside0.mk ((by rw [hg]; exact (below_size (by repeat (first | (with_reducible first | exact HB.out | apply below_alloc | apply pw_below_drewN | apply below_drew1 | refine below_set ?_ (IsS157.ge HI1337.out) | refine below_set ?_ GE1332.out | refine below_set ?_ GE1333.out | refine below_set ?_ GE1342.out) | exact HB.out))) : w.heap.size ≤ gb1349)); have n7_ := Aside0.mk ((by rw [hg]; exact (below_size (by repeat (first | (with_reducible first | exact HB.out | apply below_alloc | apply pw_below_drewN | apply below_drew1 | refine below_set ?_ (IsS157.ge HI1337.out) | refine below_set ?_ GE1332.out | refine below_set ?_ GE1333.out | refine below_set ?_ GE1342.out) | exact HB.out))) : w.heap.size ≤ gb1349)); have n8_ := Aside0.mk ((by rw [hg]; exact Nat.ne_of_lt (blk_lt (g := gb1332) (o := .cells #[.int .i64 0, .int .i64 0] 73 (0, 0)) (by (with_reducible repeat (first | refine blk_drewN ?_ _ | refine blk_drew ?_ | refine blk_alloc ?_ _)); exact BK1332.out)) : gb1332 ≠ gb1349)); have n9_ := Aside0.mk ((by rw [hg]; exact Nat.ne_of_gt (blk_lt (g := gb1332) (o := .cells #[.int .i64 0, .int .i64 0] 73 (0, 0)) (by (with_reducible repeat (first | refine blk_drewN ?_ _ | refine blk_drew ?_ | refine blk_alloc ?_ _)); exact BK1332.out)) : gb1349 ≠ gb1332)); have n10_ := Aside0.mk ((by rw [hg]; exact Nat.ne_of_lt (blk_lt (g := gb1333) (o := .cells #[.int .i64 0, .int .i64 0, .int .i64 0, .int .i64 0] 26 (0, 0)) (by (with_reducible repeat (first | refine blk_drewN ?_ _ | refine blk_drew ?_ | refine blk_alloc ?_ _)); exact BK1333.out)) : gb1333 ≠ gb1349)); have n11_ := Aside0.mk ((by rw [hg]; exact Nat.ne_of_gt (blk_lt (g := gb1333) (o := .cells #[.int .i64 0, .int .i64 0, .int .i64 0, .int .i64 0] 26 (0, 0)) (by (with_reducible repeat (first | refine blk_drewN ?_ _ | refine blk_drew ?_ | refine blk_alloc ?_ _)); exact BK1333.out)) : gb1349 ≠ gb1333)); have n12_ := Aside0.mk ((by rw [hg]; exact Nat.ne_of_lt (blk_lt (g := gb1342) (o := .cells #[.int .i64 t1338, .int .i64 t1339] 73 (0, 0)) (by (with_reducible repeat (first | refine blk_drewN ?_ _ | refine blk_drew ?_ | refine blk_alloc ?_ _)); exact BK1342.out)) : gb1342 ≠ gb1349)); have n13_ := Aside0.mk ((by rw [hg]; exact Nat.ne_of_gt (blk_lt (g := gb1342) (o := .cells #[.int .i64 t1338, .int .i64 t1339] 73 (0, 0)) (by (with_reducible repeat (first | refine blk_drewN ?_ _ | refine blk_drew ?_ | refine blk_alloc ?_ _)); exact BK1342.out)) : gb1349 ≠ gb1342)); have n14_ := Aside0.mk ((by rw [hg]; exact Nat.ne_of_lt (IsS157.lt (show IsS157 w _ g1337 t1334 t1347 t1348 from by repeat (first | (with_reducible first | exact HI1337.out | apply IsS157.alloc | apply IsS157.drewN | apply IsS157.drew | apply IsS157.set_1 | apply IsS157.set_2 | refine IsS157.far ?_ NB1337_1332.out _ | refine IsS157.far ?_ NB1337_1333.out _ | refine IsS157.far ?_ NB1337_1342.out _) | exact HI1337.out))) : g1337 ≠ gb1349)); have n15_ := Aside0.mk ((by rw [hg]; exact Nat.ne_of_gt (IsS157.lt (show IsS157 w _ g1337 t1334 t1347 t1348 from by repeat (first | (with_reducible first | exact HI1337.out | apply IsS157.alloc | apply IsS157.drewN | apply IsS157.drew | apply IsS157.set_1 | apply IsS157.set_2 | refine IsS157.far ?_ NB1337_1332.out _ | refine IsS157.far ?_ NB1337_1333.out _ | refine IsS157.far ?_ NB1337_1342.out _) | exact HI1337.out))) : gb1349 ≠ g1337)); clear BK1332; clear BK1333; clear HI1337; clear BK1342; clear HB; have BK1332 := n0_; have BK1333 := n1_; have HI1337 := n2_; have BK1342 := n3_; have HB := n4_; have BK1349 := n5_; have GW1349 := n6_; have GE1349 := n7_; have NB1332_1349 := n8_; have NB1349_1332 := n9_; have NB1333_1349 := n10_; have NB1349_1333 := n11_; have NB1342_1349 := n12_; have NB1349_1342 := n13_; have NB1337_1349 := n14_; have NB1349_1337 := n15_; clear n0_ n1_ n2_ n3_ n4_ n5_ n6_ n7_ n8_ n9_ n10_ n11_ n12_ n13_ n14_ n15_; clear hb hbox hg; have hnb19 := NB1349_1332.out; have hnc19 := NB1332_1349.out; have hnb20 := NB1349_1333.out; have hnc20 := NB1333_1349.out; have hnb21 := NB1349_1342.out; have hnc21 := NB1342_1349.out; have hnb22 := NB1349_1337.out; have hnc22 := NB1337_1349.out; have hcz23_0 : w18.cell? ⟨gb1349, 0, none⟩ = some (.int .i64 0) := (blk_cell BK1349.out 0).trans rfl; have hcz23_1 : w18.cell? ⟨gb1349, 1, none⟩ = some (.int .i64 0) := (blk_cell BK1349.out 1).trans rfl; have hcz23_2 : w18.cell? ⟨gb1349, 2, none⟩ = some (.int .i64 0) := (blk_cell BK1349.out 2).trans rfl; have hcz23_3 : w18.cell? ⟨gb1349, 3, none⟩ = some (.int .i64 0) := (blk_cell BK1349.out 3).trans rfl; have hfz23_0 := blk_frozen BK1349.out 0; have hfz23_1 := blk_frozen BK1349.out 1; have hfz23_2 := blk_frozen BK1349.out 2; have hfz23_3 := blk_frozen BK1349.out 3) | ((with_reducible refine gate_callee (f := 91) rfl ?_); refine goesL_ (some 14) rfl rfl Try.func91 (by kernel_rfl) rfl #[.pointer (some ⟨g1337, 0, none⟩), .int .i64 7] rfl (by (try simp only [List.map_toArray, List.map_cons, List.map_nil]); first | done | rfl | (simp only [List.length_drop, List.length_take]; rfl)) ?_; (with_reducible refine (spec_l1Below.calls g1337 t1334 t1347 t1348 7 t1350 t1351 t1352 w _ ?side1 ?side2 A5.out).mono ?_); (case side1 => repeat (first | (with_reducible first | exact HI1337.out | apply IsS157.alloc | apply IsS157.drewN | apply IsS157.drew | apply IsS157.set_1 | apply IsS157.set_2 | refine IsS157.far ?_ NB1337_1332.out _ | refine IsS157.far ?_ NB1337_1333.out _ | refine IsS157.far ?_ NB1337_1342.out _ | refine IsS157.far ?_ NB1337_1349.out _) | exact HI1337.out)); (case side2 => repeat (first | (with_reducible first | exact HB.out | apply below_alloc | apply pw_below_drewN | apply below_drew1 | refine below_set ?_ (IsS157.ge HI1337.out) | refine below_set ?_ GE1332.out | refine below_set ?_ GE1333.out | refine below_set ?_ GE1342.out | refine below_set ?_ GE1349.out) | exact HB.out)); rintro e w24 ⟨rfl, hi, hb, hk⟩; refine ⟨_, rfl, ?_⟩; have n0_ := Aside0.mk (KeepBut.blk hk (g' := gb1332) (o := .cells #[.int .i64 0, .int .i64 0] 73 (0, 0)) (by (with_reducible repeat (first | refine blk_drewN ?_ _ | refine blk_drew ?_ | refine blk_alloc ?_ _)); refine blk_far ?_ NB1332_1349.out _; (with_reducible repeat (first | refine blk_drewN ?_ _ | refine blk_drew ?_ | refine blk_alloc ?_ _)); refine blk_far ?_ NB1332_1349.out _; (with_reducible repeat (first | refine blk_drewN ?_ _ | refine blk_drew ?_ | refine blk_alloc ?_ _)); refine blk_far ?_ NB1332_1349.out _; (with_reducible repeat (first | refine blk_drewN ?_ _ | refine blk_drew ?_ | refine blk_alloc ?_ _)); refine blk_far ?_ NB1332_1349.out _; (with_reducible repeat (first | refine blk_drewN ?_ _ | refine blk_drew ?_ | refine blk_alloc ?_ _)); exact BK1332.out) NB1332_1337.out (by simp)); have n1_ := Aside0.mk (KeepBut.blk hk (g' := gb1333) (o := .cells #[.int .i64 0, .int .i64 0, .int .i64 0, .int .i64 0] 26 (0, 0)) (by (with_reducible repeat (first | refine blk_drewN ?_ _ | refine blk_drew ?_ | refine blk_alloc ?_ _)); refine blk_far ?_ NB1333_1349.out _; (with_reducible repeat (first | refine blk_drewN ?_ _ | refine blk_drew ?_ | refine blk_alloc ?_ _)); refine blk_far ?_ NB1333_1349.out _; (with_reducible repeat (first | refine blk_drewN ?_ _ | refine blk_drew ?_ | refine blk_alloc ?_ _)); refine blk_far ?_ NB1333_1349.out _; (with_reducible repeat (first | refine blk_drewN ?_ _ | refine blk_drew ?_ | refine blk_alloc ?_ _)); refine blk_far ?_ NB1333_1349.out _; (with_reducible repeat (first | refine blk_drewN ?_ _ | refine blk_drew ?_ | refine blk_alloc ?_ _)); exact BK1333.out) NB1333_1337.out (by simp)); have n2_ := Aside0.mk (KeepBut.blk hk (g' := gb1342) (o := .cells #[.int .i64 t1338, .int .i64 t1339] 73 (0, 0)) (by (with_reducible repeat (first | refine blk_drewN ?_ _ | refine blk_drew ?_ | refine blk_alloc ?_ _)); refine blk_far ?_ NB1342_1349.out _; (with_reducible repeat (first | refine blk_drewN ?_ _ | refine blk_drew ?_ | refine blk_alloc ?_ _)); refine blk_far ?_ NB1342_1349.out _; (with_reducible repeat (first | refine blk_drewN ?_ _ | refine blk_drew ?_ | refine blk_alloc ?_ _)); refine blk_far ?_ NB1342_1349.out _; (with_reducible repeat (first | refine blk_drewN ?_ _ | refine blk_drew ?_ | refine blk_alloc ?_ _)); refine blk_far ?_ NB1342_1349.out _; (with_reducible repeat (first | refine blk_drewN ?_ _ | refine blk_drew ?_ | refine blk_alloc ?_ _)); exact BK1342.out) NB1342_1337.out (by simp)); have n3_ := Aside0.mk (KeepBut.blk hk (g' := gb1349) (o := .cells #[.int .i64 t1343, .int .i64 t1344, .int .i64 t1345, .int .i64 t1346] 26 (0, 0)) (by (with_reducible repeat (first | refine blk_drewN ?_ _ | refine blk_drew ?_ | refine blk_alloc ?_ _)); refine blk_put (cs := #[.int .i64 t1343, .int .i64 t1344, .int .i64 t1345, .int .i64 0]) ?_ 3 _ rfl; (with_reducible repeat (first | refine blk_drewN ?_ _ | refine blk_drew ?_ | refine blk_alloc ?_ _)); refine blk_put (cs := #[.int .i64 t1343, .int .i64 t1344, .int .i64 0, .int .i64 0]) ?_ 2 _ rfl; (with_reducible repeat (first | refine blk_drewN ?_ _ | refine blk_drew ?_ | refine blk_alloc ?_ _)); refine blk_put (cs := #[.int .i64 t1343, .int .i64 0, .int .i64 0, .int .i64 0]) ?_ 1 _ rfl; (with_reducible repeat (first | refine blk_drewN ?_ _ | refine blk_drew ?_ | refine blk_alloc ?_ _)); refine blk_put (cs := #[.int .i64 0, .int .i64 0, .int .i64 0, .int .i64 0]) ?_ 0 _ rfl; (with_reducible repeat (first | refine blk_drewN ?_ _ | refine blk_drew ?_ | refine blk_alloc ?_ _)); exact BK1349.out) NB1349_1337.out (by simp)); have n4_ := Aside0.mk (hb); have n5_ := Aside0.mk (hi); clear BK1332; clear BK1333; clear BK1342; clear BK1349; clear HB; clear HI1337; have BK1332 := n0_; have BK1333 := n1_; have BK1342 := n2_; have BK1349 := n3_; have HB := n4_; have HI1337 := n5_; clear n0_ n1_ n2_ n3_ n4_ n5_; (try clear hb); (try clear hb2); (try clear hk); (try clear hi)) | ((with_reducible refine gate_dst (N := 18) rfl ?_); refine Kd.R_lit (Kd.int .i64) _ 3 ?hg (N := 18) ?hd (xs := ([(-1), 2000, 2001] : List Int)) (inner := [.int .i64 (-1), .int .i64 2000, .int .i64 2001]) (ok := fun _ => True) (okp := fun _ => True) ?hr ?hp (fun _ hk => hk) trivial (Below.refl _ _) (Nat.le_refl _) (by simp) ?_; (case hd => rfl); (case hg => rfl); (case hr => first | (go_simp; done) | (go_simp; rfl)); (case hp => exact (Reps.one (show Kd.M (Kd.int .i64) _ _ _ (-1) [.int .i64 (-1)] from rfl) (Reps.one (show Kd.M (Kd.int .i64) _ _ _ 2000 [.int .i64 2000] from rfl) (Reps.one (show Kd.M (Kd.int .i64) _ _ _ 2001 [.int .i64 2001] from rfl) (Reps.none _ _))))); intro v1354 w25 ho26 hb hg_ hnew_; clear hg_ hnew_; (first | rw [← Ny1353.out] at ho26 | (simp only [Int.reduceToNat] at ho26; rw [← Ny1353.out] at ho26)); have n0_ := Aside0.mk (Kd.R_lower ho26 (below_size (by repeat (first | (with_reducible first | exact HB.out | apply below_alloc | apply pw_below_drewN | apply below_drew1 | refine below_set ?_ (IsS157.ge HI1337.out) | refine below_set ?_ GE1332.out | refine below_set ?_ GE1333.out | refine below_set ?_ GE1342.out | refine below_set ?_ GE1349.out) | exact HB.out)))); have n1_ := Aside0.mk (blk_below (g := gb1332) (o := .cells #[.int .i64 0, .int .i64 0] 73 (0, 0)) (by (with_reducible repeat (first | refine blk_drewN ?_ _ | refine blk_drew ?_ | refine blk_alloc ?_ _)); exact BK1332.out) hb); have n2_ := Aside0.mk (blk_below (g := gb1333) (o := .cells #[.int .i64 0, .int .i64 0, .int .i64 0, .int .i64 0] 26 (0, 0)) (by (with_reducible repeat (first | refine blk_drewN ?_ _ | refine blk_drew ?_ | refine blk_alloc ?_ _)); exact BK1333.out) hb); have n3_ := Aside0.mk (IsS157.below (by repeat (first | (with_reducible first | exact HI1337.out | apply IsS157.alloc | apply IsS157.drewN | apply IsS157.drew | apply IsS157.set_1 | apply IsS157.set_2 | refine IsS157.far ?_ NB1337_1332.out _ | refine IsS157.far ?_ NB1337_1333.out _ | refine IsS157.far ?_ NB1337_1342.out _ | refine IsS157.far ?_ NB1337_1349.out _) | exact HI1337.out)) hb); have n4_ := Aside0.mk (blk_below (g := gb1342) (o := .cells #[.int .i64 t1338, .int .i64 t1339] 73 (0, 0)) (by (with_reducible repeat (first | refine blk_drewN ?_ _ | refine blk_drew ?_ | refine blk_alloc ?_ _)); exact BK1342.out) hb); have n5_ := Aside0.mk (blk_below (g := gb1349) (o := .cells #[.int .i64 t1343, .int .i64 t1344, .int .i64 t1345, .int .i64 t1346] 26 (0, 0)) (by (with_reducible repeat (first | refine blk_drewN ?_ _ | refine blk_drew ?_ | refine blk_alloc ?_ _)); exact BK1349.out) hb); have n6_ := Aside0.mk (below_step (by repeat (first | (with_reducible first | exact HB.out | apply below_alloc | apply pw_below_drewN | apply below_drew1 | refine below_set ?_ (IsS157.ge HI1337.out) | refine below_set ?_ GE1332.out | refine below_set ?_ GE1333.out | refine below_set ?_ GE1342.out | refine below_set ?_ GE1349.out) | exact HB.out)) hb); clear BK1332; clear BK1333; clear HI1337; clear BK1342; clear BK1349; clear HB; have HO1355 := n0_; have BK1332 := n1_; have BK1333 := n2_; have HI1337 := n3_; have BK1342 := n4_; have BK1349 := n5_; have HB := n6_; clear n0_ n1_ n2_ n3_ n4_ n5_ n6_; clear hb ho26; obtain ⟨Ao27, co27, eo27⟩ := Kd.R_slice HO1355.out; subst eo27) | ((with_reducible refine gate_callee (f := 78) rfl ?_); refine goesL_ (some 19) rfl rfl Try.func78 (by kernel_rfl) rfl #[.pointer (some ⟨g1337, 0, none⟩), .slice Ao27 y1353.length co27] rfl (by (try simp only [List.map_toArray, List.map_cons, List.map_nil]); first | done | rfl | (simp only [List.length_drop, List.length_take]; rfl)) ?_; (with_reducible refine (spec_l1Int.calls g1337 t1334 t1351 t1352 _ _ y1353 t1356 t1357 t1358 w _ ?side1 ?side2 ?side3 ?side4 ?side5 A7.out).mono ?_); (case side1 => repeat (first | (with_reducible first | exact HI1337.out | apply IsS157.alloc | apply IsS157.drewN | apply IsS157.drew | apply IsS157.set_1 | apply IsS157.set_2 | refine IsS157.far ?_ NB1337_1332.out _ | refine IsS157.far ?_ NB1337_1333.out _ | refine IsS157.far ?_ NB1337_1342.out _ | refine IsS157.far ?_ NB1337_1349.out _) | exact HI1337.out)); (case side2 => repeat (first | (with_reducible first | exact HB.out | apply below_alloc | apply pw_below_drewN | apply below_drew1 | refine below_set ?_ (IsS157.ge HI1337.out) | refine below_set ?_ GE1332.out | refine below_set ?_ GE1333.out | refine below_set ?_ GE1342.out | refine below_set ?_ GE1349.out) | exact HB.out)); (case side3 => repeat (first | exact (Kd.R_reads' HO1355.out).2.2 | (with_reducible refine Kd.C_alloc ?_ _) | (with_reducible refine Kd.C_drewN ?_ _) | (with_reducible refine Kd.C_drew ?_))); (case side4 => exact (Kd.R_reads' HO1355.out).2.1); (case side5 => exact far_slice (IsS157.own_ne HI1337.out HO1355.out (by decide))); rintro e w28 ⟨rfl, hi, hb, hk⟩; refine ⟨_, rfl, ?_⟩; have n0_ := Aside0.mk (KeepBut.blk hk (g' := gb1332) (o := .cells #[.int .i64 0, .int .i64 0] 73 (0, 0)) (by (with_reducible repeat (first | refine blk_drewN ?_ _ | refine blk_drew ?_ | refine blk_alloc ?_ _)); exact BK1332.out) NB1332_1337.out (by simp)); have n1_ := Aside0.mk (KeepBut.blk hk (g' := gb1333) (o := .cells #[.int .i64 0, .int .i64 0, .int .i64 0, .int .i64 0] 26 (0, 0)) (by (with_reducible repeat (first | refine blk_drewN ?_ _ | refine blk_drew ?_ | refine blk_alloc ?_ _)); exact BK1333.out) NB1333_1337.out (by simp)); have n2_ := Aside0.mk (KeepBut.blk hk (g' := gb1342) (o := .cells #[.int .i64 t1338, .int .i64 t1339] 73 (0, 0)) (by (with_reducible repeat (first | refine blk_drewN ?_ _ | refine blk_drew ?_ | refine blk_alloc ?_ _)); exact BK1342.out) NB1342_1337.out (by simp)); have n3_ := Aside0.mk (KeepBut.blk hk (g' := gb1349) (o := .cells #[.int .i64 t1343, .int .i64 t1344, .int .i64 t1345, .int .i64 t1346] 26 (0, 0)) (by (with_reducible repeat (first | refine blk_drewN ?_ _ | refine blk_drew ?_ | refine blk_alloc ?_ _)); exact BK1349.out) NB1349_1337.out (by simp)); have n4_ := Aside0.mk (Kd.R_mono (Kd.R_keep (IsS157.apart (show IsS157 w _ g1337 t1334 t1351 t1352 from by repeat (first | (with_reducible first | exact HI1337.out | apply IsS157.alloc | apply IsS157.drewN | apply IsS157.drew | apply IsS157.set_1 | apply IsS157.set_2 | refine IsS157.far ?_ NB1337_1332.out _ | refine IsS157.far ?_ NB1337_1333.out _ | refine IsS157.far ?_ NB1337_1342.out _ | refine IsS157.far ?_ NB1337_1349.out _) | exact HI1337.out)) (by (with_reducible repeat (first | apply Kd.R_alloc | apply Kd.R_drewN | apply Kd.R_drew)); exact HO1355.out) (by decide)) hk (fun _ h => h.2)) (fun _ h => h.1)); have n5_ := Aside0.mk (hb); have n6_ := Aside0.mk (hi); clear BK1332; clear BK1333; clear BK1342; clear BK1349; clear HO1355; clear HB; clear HI1337; have BK1332 := n0_; have BK1333 := n1_; have BK1342 := n2_; have BK1349 := n3_; have HO1355 := n4_; have HB := n5_; have HI1337 := n6_; clear n0_ n1_ n2_ n3_ n4_ n5_ n6_; (try clear hb); (try clear hb2); (try clear hk); (try clear hi); have hcz29_0 : w28.cell? ⟨gb1349, 0, none⟩ = some (.int .i64 t1343) := (blk_cell BK1349.out 0).trans rfl; have hcz29_1 : w28.cell? ⟨gb1349, 1, none⟩ = some (.int .i64 t1344) := (blk_cell BK1349.out 1).trans rfl; have hcz29_2 : w28.cell? ⟨gb1349, 2, none⟩ = some (.int .i64 t1345) := (blk_cell BK1349.out 2).trans rfl; have hcz29_3 : w28.cell? ⟨gb1349, 3, none⟩ = some (.int .i64 t1346) := (blk_cell BK1349.out 3).trans rfl; have hfz29_0 := blk_frozen BK1349.out 0; have hfz29_1 := blk_frozen BK1349.out 1; have hfz29_2 := blk_frozen BK1349.out 2; have hfz29_3 := blk_frozen BK1349.out 3))
  have n0_ : Aside0 (Kd.R (Kd.int .i64) 3 (w28.setCell ⟨gb1349, 0, none⟩ (.int .i64 t1356)) w.heap.size (fun _ => True) (.slice Ao27 y1353.length co27) y1353) := ⟨by (with_reducible repeat (first | apply Kd.R_alloc | apply Kd.R_drewN | apply Kd.R_drew)); exact Kd.R_mono (Kd.R_far (p := ⟨gb1349, 0, none⟩) (Kd.R_types HO1355.out BK1349.out (by decide)) (fun _ hk => hk.2) (.int .i64 t1356)) (fun _ hk => trivial)⟩
  have n1_ : Aside0 ((w28.setCell ⟨gb1349, 0, none⟩ (.int .i64 t1356)).heap[gb1332]? = some (.cells #[.int .i64 0, .int .i64 0] 73 (0, 0))) := ⟨by (with_reducible repeat (first | refine blk_drewN ?_ _ | refine blk_drew ?_ | refine blk_alloc ?_ _)); refine blk_far ?_ NB1332_1349.out _; (with_reducible repeat (first | refine blk_drewN ?_ _ | refine blk_drew ?_ | refine blk_alloc ?_ _)); exact BK1332.out⟩
  have n2_ : Aside0 ((w28.setCell ⟨gb1349, 0, none⟩ (.int .i64 t1356)).heap[gb1333]? = some (.cells #[.int .i64 0, .int .i64 0, .int .i64 0, .int .i64 0] 26 (0, 0))) := ⟨by (with_reducible repeat (first | refine blk_drewN ?_ _ | refine blk_drew ?_ | refine blk_alloc ?_ _)); refine blk_far ?_ NB1333_1349.out _; (with_reducible repeat (first | refine blk_drewN ?_ _ | refine blk_drew ?_ | refine blk_alloc ?_ _)); exact BK1333.out⟩
  have n3_ : Aside0 ((w28.setCell ⟨gb1349, 0, none⟩ (.int .i64 t1356)).heap[gb1342]? = some (.cells #[.int .i64 t1338, .int .i64 t1339] 73 (0, 0))) := ⟨by (with_reducible repeat (first | refine blk_drewN ?_ _ | refine blk_drew ?_ | refine blk_alloc ?_ _)); refine blk_far ?_ NB1342_1349.out _; (with_reducible repeat (first | refine blk_drewN ?_ _ | refine blk_drew ?_ | refine blk_alloc ?_ _)); exact BK1342.out⟩
  have n4_ : Aside0 ((w28.setCell ⟨gb1349, 0, none⟩ (.int .i64 t1356)).heap[gb1349]? = some (.cells #[.int .i64 t1356, .int .i64 t1344, .int .i64 t1345, .int .i64 t1346] 26 (0, 0))) := ⟨by (with_reducible repeat (first | refine blk_drewN ?_ _ | refine blk_drew ?_ | refine blk_alloc ?_ _)); refine blk_put (cs := #[.int .i64 t1343, .int .i64 t1344, .int .i64 t1345, .int .i64 t1346]) ?_ 0 _ rfl; (with_reducible repeat (first | refine blk_drewN ?_ _ | refine blk_drew ?_ | refine blk_alloc ?_ _)); exact BK1349.out⟩
  have n5_ : Aside0 (IsS157 w (w28.setCell ⟨gb1349, 0, none⟩ (.int .i64 t1356)) g1337 t1334 t1357 t1358) := ⟨by repeat (first | (with_reducible first | exact HI1337.out | apply IsS157.alloc | apply IsS157.drewN | apply IsS157.drew | apply IsS157.set_1 | apply IsS157.set_2 | refine IsS157.far ?_ NB1337_1332.out _ | refine IsS157.far ?_ NB1337_1333.out _ | refine IsS157.far ?_ NB1337_1342.out _ | refine IsS157.far ?_ NB1337_1349.out _) | exact HI1337.out)⟩
  have n6_ : Aside0 (Below w.heap.size w (w28.setCell ⟨gb1349, 0, none⟩ (.int .i64 t1356))) := ⟨by repeat (first | (with_reducible first | exact HB.out | apply below_alloc | apply pw_below_drewN | apply below_drew1 | refine below_set ?_ (IsS157.ge HI1337.out) | refine below_set ?_ GE1332.out | refine below_set ?_ GE1333.out | refine below_set ?_ GE1342.out | refine below_set ?_ GE1349.out) | exact HB.out)⟩
  (try clear HO1355)
  (try clear BK1332)
  (try clear BK1333)
  (try clear BK1342)
  (try clear BK1349)
  (try clear HI1337)
  (try clear HB)
  generalize (w28.setCell ⟨gb1349, 0, none⟩ (.int .i64 t1356)) = w30 at n0_ n1_ n2_ n3_ n4_ n5_ n6_ ⊢
  have HO1355 := n0_
  have BK1332 := n1_
  have BK1333 := n2_
  have BK1342 := n3_
  have BK1349 := n4_
  have HI1337 := n5_
  have HB := n6_
  clear n0_ n1_ n2_ n3_ n4_ n5_ n6_
  have n0_ := Aside0.mk (Kd.R_drew HO1355.out)
  have n1_ := Aside0.mk (blk_drew BK1332.out)
  have n2_ := Aside0.mk (blk_drew BK1333.out)
  have n3_ := Aside0.mk (blk_drew BK1342.out)
  have n4_ := Aside0.mk (blk_drew BK1349.out)
  have n5_ := Aside0.mk (IsS157.drew HI1337.out)
  have n6_ := Aside0.mk (below_drew1 HB.out)
  clear HO1355
  clear BK1332
  clear BK1333
  clear BK1342
  clear BK1349
  clear HI1337
  clear HB
  have HO1355 := n0_
  have BK1332 := n1_
  have BK1333 := n2_
  have BK1342 := n3_
  have BK1349 := n4_
  have HI1337 := n5_
  have HB := n6_
  clear n0_ n1_ n2_ n3_ n4_ n5_ n6_
  refine start_ (n := 4) (S := fun w' => w'.cell? ⟨gb1342, 0, none⟩ = some (.int .i64 t1338) ∧ w'.cell? ⟨gb1342, 1, none⟩ = some (.int .i64 t1339) ∧ w'.cell? ⟨gb1349, 0, none⟩ = some (.int .i64 t1356) ∧ w'.cell? ⟨gb1349, 1, none⟩ = some (.int .i64 t1344) ∧ w'.cell? ⟨gb1349, 2, none⟩ = some (.int .i64 t1345) ∧ w'.cell? ⟨gb1349, 3, none⟩ = some (.int .i64 t1346)) (ds := []) #[false, false, false, false] (by kernel_rfl) rfl rfl ⟨(blk_cell BK1342.out 0).trans rfl, (blk_cell BK1342.out 1).trans rfl, (blk_cell BK1349.out 0).trans rfl, (blk_cell BK1349.out 1).trans rfl, (blk_cell BK1349.out 2).trans rfl, (blk_cell BK1349.out 3).trans rfl⟩ (fun hHeld => ?_)
  generalize w30.drew = w31 at HO1355 BK1332 BK1333 BK1342 BK1349 HI1337 HB hHeld ⊢
  refine take_ (i := 0) (N := some 27) (v := ?_) (a' := ?_) #[true, false, false, false] rfl rfl (by kernel_rfl) (fun _ _ _ h => h) (Or.inl ⟨by rfl, ?_⟩) hHeld ?_ ?_
  rotate_left
  ·
   rintro w' ⟨s0, s1, s2, s3, s4, s5⟩
   go_simp
   with_reducible rfl
  rotate_left
  ·
   simp only [Act.put, List.setIfInBounds_toArray, List.set_cons_zero, List.set_cons_succ, i64_w, i32_w]
   rfl
  refine take_ (i := 1) (N := some 28) (v := ?_) (a' := ?_) #[true, true, false, false] rfl rfl (by kernel_rfl) (fun _ _ _ h => h) (Or.inl ⟨by rfl, ?_⟩) hHeld ?_ ?_
  rotate_left
  ·
   rintro w' ⟨s0, s1, s2, s3, s4, s5⟩
   go_simp
   with_reducible rfl
  rotate_left
  ·
   simp only [Act.put, List.setIfInBounds_toArray, List.set_cons_zero, List.set_cons_succ, i64_w, i32_w]
   rfl
  refine one_ (i := 2) (N := none) #[true, true, true, false] rfl rfl (by kernel_rfl) (by decide) (fun K hK => ?_)
  have hs32 : w31.cell? ⟨gb1332, 0, none⟩ = some (.int .i64 0) := (blk_cell BK1332.out 0).trans rfl
  have hfs32 := blk_frozen BK1332.out 0
  have hns32_1 := NB1333_1332.out
  have hns32_2 := NB1342_1332.out
  have hns32_3 := NB1349_1332.out
  have hms32_1 := NB1332_1333.out
  have hms32_2 := NB1332_1342.out
  have hms32_3 := NB1332_1349.out
  have hs33 : w31.cell? ⟨gb1332, 1, none⟩ = some (.int .i64 0) := (blk_cell BK1332.out 1).trans rfl
  have hfs33 := blk_frozen BK1332.out 1
  have hns33_1 := NB1333_1332.out
  have hns33_2 := NB1342_1332.out
  have hns33_3 := NB1349_1332.out
  have hms33_1 := NB1332_1333.out
  have hms33_2 := NB1332_1342.out
  have hms33_3 := NB1332_1349.out
  refine skip_ (w1 := ?_) (by rfl) rfl ?_ ?_
  rotate_left
  ·
   go_simp
   rfl
  refine hK.out _ _ ⟨((cell_far (p := ⟨gb1332, _, none⟩) NB1342_1332.out _).trans (((cell_far (p := ⟨gb1332, _, none⟩) NB1342_1332.out _).trans (hHeld.1)))), ((cell_far (p := ⟨gb1332, _, none⟩) NB1342_1332.out _).trans (((cell_far (p := ⟨gb1332, _, none⟩) NB1342_1332.out _).trans (hHeld.2.1)))), ((cell_far (p := ⟨gb1332, _, none⟩) NB1349_1332.out _).trans (((cell_far (p := ⟨gb1332, _, none⟩) NB1349_1332.out _).trans (hHeld.2.2.1)))), ((cell_far (p := ⟨gb1332, _, none⟩) NB1349_1332.out _).trans (((cell_far (p := ⟨gb1332, _, none⟩) NB1349_1332.out _).trans (hHeld.2.2.2.1)))), ((cell_far (p := ⟨gb1332, _, none⟩) NB1349_1332.out _).trans (((cell_far (p := ⟨gb1332, _, none⟩) NB1349_1332.out _).trans (hHeld.2.2.2.2.1)))), ((cell_far (p := ⟨gb1332, _, none⟩) NB1349_1332.out _).trans (((cell_far (p := ⟨gb1332, _, none⟩) NB1349_1332.out _).trans (hHeld.2.2.2.2.2))))⟩ (fun hHeld => ?_)
  clear hK K
  refine one_ (i := 3) (N := none) #[true, true, true, true] rfl rfl (by kernel_rfl) (by decide) (fun K hK => ?_)
  have hs34 : w31.cell? ⟨gb1333, 0, none⟩ = some (.int .i64 0) := (blk_cell BK1333.out 0).trans rfl
  have hfs34 := blk_frozen BK1333.out 0
  have hns34_0 := NB1332_1333.out
  have hns34_2 := NB1342_1333.out
  have hns34_3 := NB1349_1333.out
  have hms34_0 := NB1333_1332.out
  have hms34_2 := NB1333_1342.out
  have hms34_3 := NB1333_1349.out
  have hs35 : w31.cell? ⟨gb1333, 1, none⟩ = some (.int .i64 0) := (blk_cell BK1333.out 1).trans rfl
  have hfs35 := blk_frozen BK1333.out 1
  have hns35_0 := NB1332_1333.out
  have hns35_2 := NB1342_1333.out
  have hns35_3 := NB1349_1333.out
  have hms35_0 := NB1333_1332.out
  have hms35_2 := NB1333_1342.out
  have hms35_3 := NB1333_1349.out
  have hs36 : w31.cell? ⟨gb1333, 2, none⟩ = some (.int .i64 0) := (blk_cell BK1333.out 2).trans rfl
  have hfs36 := blk_frozen BK1333.out 2
  have hns36_0 := NB1332_1333.out
  have hns36_2 := NB1342_1333.out
  have hns36_3 := NB1349_1333.out
  have hms36_0 := NB1333_1332.out
  have hms36_2 := NB1333_1342.out
  have hms36_3 := NB1333_1349.out
  have hs37 : w31.cell? ⟨gb1333, 3, none⟩ = some (.int .i64 0) := (blk_cell BK1333.out 3).trans rfl
  have hfs37 := blk_frozen BK1333.out 3
  have hns37_0 := NB1332_1333.out
  have hns37_2 := NB1342_1333.out
  have hns37_3 := NB1349_1333.out
  have hms37_0 := NB1333_1332.out
  have hms37_2 := NB1333_1342.out
  have hms37_3 := NB1333_1349.out
  refine skip_ (w1 := ?_) (by rfl) rfl ?_ ?_
  rotate_left
  ·
   go_simp
   rfl
  refine hK.out _ _ ⟨((cell_far (p := ⟨gb1333, _, none⟩) NB1342_1333.out _).trans (((cell_far (p := ⟨gb1333, _, none⟩) NB1342_1333.out _).trans (((cell_far (p := ⟨gb1333, _, none⟩) NB1342_1333.out _).trans (((cell_far (p := ⟨gb1333, _, none⟩) NB1342_1333.out _).trans (hHeld.1)))))))), ((cell_far (p := ⟨gb1333, _, none⟩) NB1342_1333.out _).trans (((cell_far (p := ⟨gb1333, _, none⟩) NB1342_1333.out _).trans (((cell_far (p := ⟨gb1333, _, none⟩) NB1342_1333.out _).trans (((cell_far (p := ⟨gb1333, _, none⟩) NB1342_1333.out _).trans (hHeld.2.1)))))))), ((cell_far (p := ⟨gb1333, _, none⟩) NB1349_1333.out _).trans (((cell_far (p := ⟨gb1333, _, none⟩) NB1349_1333.out _).trans (((cell_far (p := ⟨gb1333, _, none⟩) NB1349_1333.out _).trans (((cell_far (p := ⟨gb1333, _, none⟩) NB1349_1333.out _).trans (hHeld.2.2.1)))))))), ((cell_far (p := ⟨gb1333, _, none⟩) NB1349_1333.out _).trans (((cell_far (p := ⟨gb1333, _, none⟩) NB1349_1333.out _).trans (((cell_far (p := ⟨gb1333, _, none⟩) NB1349_1333.out _).trans (((cell_far (p := ⟨gb1333, _, none⟩) NB1349_1333.out _).trans (hHeld.2.2.2.1)))))))), ((cell_far (p := ⟨gb1333, _, none⟩) NB1349_1333.out _).trans (((cell_far (p := ⟨gb1333, _, none⟩) NB1349_1333.out _).trans (((cell_far (p := ⟨gb1333, _, none⟩) NB1349_1333.out _).trans (((cell_far (p := ⟨gb1333, _, none⟩) NB1349_1333.out _).trans (hHeld.2.2.2.2.1)))))))), ((cell_far (p := ⟨gb1333, _, none⟩) NB1349_1333.out _).trans (((cell_far (p := ⟨gb1333, _, none⟩) NB1349_1333.out _).trans (((cell_far (p := ⟨gb1333, _, none⟩) NB1349_1333.out _).trans (((cell_far (p := ⟨gb1333, _, none⟩) NB1349_1333.out _).trans (hHeld.2.2.2.2.2))))))))⟩ (fun hHeld => ?_)
  clear hK K
  refine done_ (by kernel_rfl) ?_
  try go_wp2
  refine bodyPost_ret (results_cc rfl _ _ gb1332 gb1333 73 26 #[.int .i64 t1338, .int .i64 t1339] #[.int .i64 t1356, .int .i64 t1344, .int .i64 t1345, .int .i64 t1346] (0, 0) (0, 0) _ _ rfl (by (with_reducible repeat (first | refine blk_drewN ?_ _ | refine blk_drew ?_ | refine blk_alloc ?_ _)); refine blk_far ?_ NB1332_1333.out _; (with_reducible repeat (first | refine blk_drewN ?_ _ | refine blk_drew ?_ | refine blk_alloc ?_ _)); refine blk_far ?_ NB1332_1333.out _; (with_reducible repeat (first | refine blk_drewN ?_ _ | refine blk_drew ?_ | refine blk_alloc ?_ _)); refine blk_far ?_ NB1332_1333.out _; (with_reducible repeat (first | refine blk_drewN ?_ _ | refine blk_drew ?_ | refine blk_alloc ?_ _)); refine blk_far ?_ NB1332_1333.out _; (with_reducible repeat (first | refine blk_drewN ?_ _ | refine blk_drew ?_ | refine blk_alloc ?_ _)); refine blk_put (cs := #[.int .i64 t1338, .int .i64 0]) ?_ 1 _ rfl; (with_reducible repeat (first | refine blk_drewN ?_ _ | refine blk_drew ?_ | refine blk_alloc ?_ _)); refine blk_put (cs := #[.int .i64 0, .int .i64 0]) ?_ 0 _ rfl; (with_reducible repeat (first | refine blk_drewN ?_ _ | refine blk_drew ?_ | refine blk_alloc ?_ _)); exact BK1332.out) Try.underlying73 rfl (by kernel_rfl) rfl (by (with_reducible repeat (first | refine blk_drewN ?_ _ | refine blk_drew ?_ | refine blk_alloc ?_ _)); refine blk_put (cs := #[.int .i64 t1356, .int .i64 t1344, .int .i64 t1345, .int .i64 0]) ?_ 3 _ rfl; (with_reducible repeat (first | refine blk_drewN ?_ _ | refine blk_drew ?_ | refine blk_alloc ?_ _)); refine blk_put (cs := #[.int .i64 t1356, .int .i64 t1344, .int .i64 0, .int .i64 0]) ?_ 2 _ rfl; (with_reducible repeat (first | refine blk_drewN ?_ _ | refine blk_drew ?_ | refine blk_alloc ?_ _)); refine blk_put (cs := #[.int .i64 t1356, .int .i64 0, .int .i64 0, .int .i64 0]) ?_ 1 _ rfl; (with_reducible repeat (first | refine blk_drewN ?_ _ | refine blk_drew ?_ | refine blk_alloc ?_ _)); refine blk_put (cs := #[.int .i64 0, .int .i64 0, .int .i64 0, .int .i64 0]) ?_ 0 _ rfl; (with_reducible repeat (first | refine blk_drewN ?_ _ | refine blk_drew ?_ | refine blk_alloc ?_ _)); refine blk_far ?_ NB1333_1332.out _; (with_reducible repeat (first | refine blk_drewN ?_ _ | refine blk_drew ?_ | refine blk_alloc ?_ _)); refine blk_far ?_ NB1333_1332.out _; (with_reducible repeat (first | refine blk_drewN ?_ _ | refine blk_drew ?_ | refine blk_alloc ?_ _)); exact BK1333.out) Try.underlying26 rfl (by kernel_rfl)) rfl ?_
  exact ⟨by first | rfl | (simp [errW_none, errW_some] <;> rfl) | (simp [*, errW_none, errW_some] <;> rfl), by repeat (first | (with_reducible first | exact HB.out | apply below_alloc | apply pw_below_drewN | apply below_drew1 | refine below_set ?_ (IsS157.ge HI1337.out) | refine below_set ?_ GE1332.out | refine below_set ?_ GE1333.out | refine below_set ?_ GE1342.out | refine below_set ?_ GE1349.out) | exact HB.out)⟩
 ·
  rw [if_neg c6] at H
  have c6b0 : (t1350 == 0) = false := beq_eq_false_iff_ne.mpr c6
  have c6b1 : (t1350 != 0) = true := bne_iff_ne.mpr c6
  by_cases c38 : t1350 = 1
  ·
   rw [if_pos c38] at H
   have c38b0 : (t1350 == 1) = true := beq_iff_eq.mpr c38
   have c38b1 : (t1350 != 1) = false := bne_eq_false_iff_eq.mpr c38
   clear c38
   obtain ⟨y1359, hy1359⟩ : ∃ y_ : List Int, y_ = (([0, 96, 97] : List Int)) := ⟨_, rfl⟩
   replace H : ((spec_l1Int.f t1334 t1351 t1352 y1359).bind fun bt1362 => (some (t1338, t1339, t1343, bt1362.1, t1345, t1346))) = some (r1, r2, r3, r4, r5, r6) := by first | (rw [hy1359]; with_reducible exact H) | (have H2_ := (Option.bind_some _ _).symm.trans H; rw [hy1359]; with_reducible exact H2_) | (have H2_ := (Option.bind_some _ _).symm.trans H; with_reducible exact H2_) | with_reducible exact H | (rw [hy1359]; exact H) | exact H
   have Ny1359 := Aside0.mk hy1359
   clear hy1359
   replace H := Option.bind_eq_some_iff.mp H
   obtain ⟨⟨t1362, t1363, t1364⟩, A390, H⟩ := H
   try dsimp only at H
   have A39 := Aside0.mk A390
   clear A390
   simp only [Option.some.injEq, Prod.mk.injEq] at H
   obtain ⟨rfl, rfl, rfl, rfl, rfl, rfl⟩ := H
   go_enter Try.func49, Try.ntmps49
   try go_wp2_with (first | ((with_reducible refine gate_dst (N := 2) rfl ?_); refine box_event ?hg (N := 2) ?hd (cs := #[.int .i64 0, .int .i64 0]) (t := 73) ?hr ?_; (case hd => rfl); (case hg => rfl); (case hr => first | (go_simp; done) | (go_simp; rfl)); intro gb1332 hg w40 hbox hb; have n0_ := Aside0.mk (below_step (by repeat (first | (with_reducible first | exact HB.out | apply below_alloc | apply pw_below_drewN | apply below_drew1) | exact HB.out)) hb); have n1_ := Aside0.mk (hbox); have n2_ := Aside0.mk ((by rw [hg]; exact (below_size (by repeat (first | (with_reducible first | exact HB.out | apply below_alloc | apply pw_below_drewN | apply below_drew1) | exact HB.out))) : w.heap.size ≤ gb1332)); have n3_ := Aside0.mk ((by rw [hg]; exact (below_size (by repeat (first | (with_reducible first | exact HB.out | apply below_alloc | apply pw_below_drewN | apply below_drew1) | exact HB.out))) : w.heap.size ≤ gb1332)); clear HB; have HB := n0_; have BK1332 := n1_; have GW1332 := n2_; have GE1332 := n3_; clear n0_ n1_ n2_ n3_; clear hb hbox hg) | ((with_reducible refine gate_dst (N := 3) rfl ?_); refine box_event ?hg (N := 3) ?hd (cs := #[.int .i64 0, .int .i64 0, .int .i64 0, .int .i64 0]) (t := 26) ?hr ?_; (case hd => rfl); (case hg => rfl); (case hr => first | (go_simp; done) | (go_simp; rfl)); intro gb1333 hg w41 hbox hb; have n0_ := Aside0.mk (blk_below (g := gb1332) (o := .cells #[.int .i64 0, .int .i64 0] 73 (0, 0)) (by (with_reducible repeat (first | refine blk_drewN ?_ _ | refine blk_drew ?_ | refine blk_alloc ?_ _)); exact BK1332.out) hb); have n1_ := Aside0.mk (below_step (by repeat (first | (with_reducible first | exact HB.out | apply below_alloc | apply pw_below_drewN | apply below_drew1 | refine below_set ?_ GE1332.out) | exact HB.out)) hb); have n2_ := Aside0.mk (hbox); have n3_ := Aside0.mk ((by rw [hg]; exact (below_size (by repeat (first | (with_reducible first | exact HB.out | apply below_alloc | apply pw_below_drewN | apply below_drew1 | refine below_set ?_ GE1332.out) | exact HB.out))) : w.heap.size ≤ gb1333)); have n4_ := Aside0.mk ((by rw [hg]; exact (below_size (by repeat (first | (with_reducible first | exact HB.out | apply below_alloc | apply pw_below_drewN | apply below_drew1 | refine below_set ?_ GE1332.out) | exact HB.out))) : w.heap.size ≤ gb1333)); have n5_ := Aside0.mk ((by rw [hg]; exact Nat.ne_of_lt (blk_lt (g := gb1332) (o := .cells #[.int .i64 0, .int .i64 0] 73 (0, 0)) (by (with_reducible repeat (first | refine blk_drewN ?_ _ | refine blk_drew ?_ | refine blk_alloc ?_ _)); exact BK1332.out)) : gb1332 ≠ gb1333)); have n6_ := Aside0.mk ((by rw [hg]; exact Nat.ne_of_gt (blk_lt (g := gb1332) (o := .cells #[.int .i64 0, .int .i64 0] 73 (0, 0)) (by (with_reducible repeat (first | refine blk_drewN ?_ _ | refine blk_drew ?_ | refine blk_alloc ?_ _)); exact BK1332.out)) : gb1333 ≠ gb1332)); clear BK1332; clear HB; have BK1332 := n0_; have HB := n1_; have BK1333 := n2_; have GW1333 := n3_; have GE1333 := n4_; have NB1332_1333 := n5_; have NB1333_1332 := n6_; clear n0_ n1_ n2_ n3_ n4_ n5_ n6_; clear hb hbox hg) | ((with_reducible refine gate_callee (f := 74) rfl ?_); refine goesL_ (some 8) rfl rfl Try.func74 (by kernel_rfl) rfl #[.slice A0 l0.length c0] rfl (by (try simp only [List.map_toArray, List.map_cons, List.map_nil]); first | done | rfl | (simp only [List.length_drop, List.length_take]; rfl)) ?_; (with_reducible refine (spec_l1New.calls k _ _ l0 t1334 t1335 t1336 w _ ?side1 ?side2 ?side3 A2.out).mono ?_); (case side1 => repeat (first | (with_reducible first | exact HB.out | apply below_alloc | apply pw_below_drewN | apply below_drew1 | refine below_set ?_ GE1332.out | refine below_set ?_ GE1333.out) | exact HB.out)); (case side2 => exact HR0.out); (case side3 => exact HC0.out); rintro e w42 ⟨g1337, rfl, hi, hb, hb2⟩; refine ⟨_, rfl, ?_⟩; have n0_ := Aside0.mk (blk_below (g := gb1332) (o := .cells #[.int .i64 0, .int .i64 0] 73 (0, 0)) (by (with_reducible repeat (first | refine blk_drewN ?_ _ | refine blk_drew ?_ | refine blk_alloc ?_ _)); exact BK1332.out) hb2); have n1_ := Aside0.mk (blk_below (g := gb1333) (o := .cells #[.int .i64 0, .int .i64 0, .int .i64 0, .int .i64 0] 26 (0, 0)) (by (with_reducible repeat (first | refine blk_drewN ?_ _ | refine blk_drew ?_ | refine blk_alloc ?_ _)); exact BK1333.out) hb2); have n2_ := Aside0.mk (hb); have n3_ := Aside0.mk (hi); have n4_ := Aside0.mk (IsS157.ne_blk hi (blk_below (g := gb1332) (o := .cells #[.int .i64 0, .int .i64 0] 73 (0, 0)) (by (with_reducible repeat (first | refine blk_drewN ?_ _ | refine blk_drew ?_ | refine blk_alloc ?_ _)); exact BK1332.out) hb2) (by decide)); have n5_ := Aside0.mk (Ne.symm (IsS157.ne_blk hi (blk_below (g := gb1332) (o := .cells #[.int .i64 0, .int .i64 0] 73 (0, 0)) (by (with_reducible repeat (first | refine blk_drewN ?_ _ | refine blk_drew ?_ | refine blk_alloc ?_ _)); exact BK1332.out) hb2) (by decide))); have n6_ := Aside0.mk (IsS157.ne_blk hi (blk_below (g := gb1333) (o := .cells #[.int .i64 0, .int .i64 0, .int .i64 0, .int .i64 0] 26 (0, 0)) (by (with_reducible repeat (first | refine blk_drewN ?_ _ | refine blk_drew ?_ | refine blk_alloc ?_ _)); exact BK1333.out) hb2) (by decide)); have n7_ := Aside0.mk (Ne.symm (IsS157.ne_blk hi (blk_below (g := gb1333) (o := .cells #[.int .i64 0, .int .i64 0, .int .i64 0, .int .i64 0] 26 (0, 0)) (by (with_reducible repeat (first | refine blk_drewN ?_ _ | refine blk_drew ?_ | refine blk_alloc ?_ _)); exact BK1333.out) hb2) (by decide))); clear BK1332; clear BK1333; clear HB; have BK1332 := n0_; have BK1333 := n1_; have HB := n2_; have HI1337 := n3_; have NB1337_1332 := n4_; have NB1332_1337 := n5_; have NB1337_1333 := n6_; have NB1333_1337 := n7_; clear n0_ n1_ n2_ n3_ n4_ n5_ n6_ n7_; (try clear hb); (try clear hb2); (try clear hk); (try clear hi)) | ((with_reducible refine gate_callee (f := 113) rfl ?_); refine goesL_ (some 10) rfl rfl Try.func113 (by kernel_rfl) rfl #[.pointer (some ⟨g1337, 0, none⟩)] rfl (by (try simp only [List.map_toArray, List.map_cons, List.map_nil]); first | done | rfl | (simp only [List.length_drop, List.length_take]; rfl)) ?_; (with_reducible refine (spec_l10Any.calls g1337 t1334 t1335 t1336 t1338 t1339 t1340 t1341 w _ ?side1 ?side2 A3.out).mono ?_); (case side1 => repeat (first | (with_reducible first | exact HI1337.out | apply IsS157.alloc | apply IsS157.drewN | apply IsS157.drew | apply IsS157.set_1 | apply IsS157.set_2 | refine IsS157.far ?_ NB1337_1332.out _ | refine IsS157.far ?_ NB1337_1333.out _) | exact HI1337.out)); (case side2 => repeat (first | (with_reducible first | exact HB.out | apply below_alloc | apply pw_below_drewN | apply below_drew1 | refine below_set ?_ (IsS157.ge HI1337.out) | refine below_set ?_ GE1332.out | refine below_set ?_ GE1333.out) | exact HB.out)); rintro e w43 ⟨rfl, hi, hb, hk⟩; refine ⟨_, rfl, ?_⟩; have n0_ := Aside0.mk (KeepBut.blk hk (g' := gb1332) (o := .cells #[.int .i64 0, .int .i64 0] 73 (0, 0)) (by (with_reducible repeat (first | refine blk_drewN ?_ _ | refine blk_drew ?_ | refine blk_alloc ?_ _)); exact BK1332.out) NB1332_1337.out (by simp)); have n1_ := Aside0.mk (KeepBut.blk hk (g' := gb1333) (o := .cells #[.int .i64 0, .int .i64 0, .int .i64 0, .int .i64 0] 26 (0, 0)) (by (with_reducible repeat (first | refine blk_drewN ?_ _ | refine blk_drew ?_ | refine blk_alloc ?_ _)); exact BK1333.out) NB1333_1337.out (by simp)); have n2_ := Aside0.mk (hb); have n3_ := Aside0.mk (hi); clear BK1332; clear BK1333; clear HB; clear HI1337; have BK1332 := n0_; have BK1333 := n1_; have HB := n2_; have HI1337 := n3_; clear n0_ n1_ n2_ n3_; (try clear hb); (try clear hb2); (try clear hk); (try clear hi)) | ((with_reducible refine gate_dst (N := 5) rfl ?_); refine box_event ?hg (N := 5) ?hd (cs := #[.int .i64 0, .int .i64 0]) (t := 73) ?hr ?_; (case hd => rfl); (case hg => rfl); (case hr => first | (go_simp; done) | (go_simp; rfl)); intro gb1342 hg w44 hbox hb; have n0_ := Aside0.mk (blk_below (g := gb1332) (o := .cells #[.int .i64 0, .int .i64 0] 73 (0, 0)) (by (with_reducible repeat (first | refine blk_drewN ?_ _ | refine blk_drew ?_ | refine blk_alloc ?_ _)); exact BK1332.out) hb); have n1_ := Aside0.mk (blk_below (g := gb1333) (o := .cells #[.int .i64 0, .int .i64 0, .int .i64 0, .int .i64 0] 26 (0, 0)) (by (with_reducible repeat (first | refine blk_drewN ?_ _ | refine blk_drew ?_ | refine blk_alloc ?_ _)); exact BK1333.out) hb); have n2_ := Aside0.mk (IsS157.below (by repeat (first | (with_reducible first | exact HI1337.out | apply IsS157.alloc | apply IsS157.drewN | apply IsS157.drew | apply IsS157.set_1 | apply IsS157.set_2 | refine IsS157.far ?_ NB1337_1332.out _ | refine IsS157.far ?_ NB1337_1333.out _) | exact HI1337.out)) hb); have n3_ := Aside0.mk (below_step (by repeat (first | (with_reducible first | exact HB.out | apply below_alloc | apply pw_below_drewN | apply below_drew1 | refine below_set ?_ (IsS157.ge HI1337.out) | refine below_set ?_ GE1332.out | refine below_set ?_ GE1333.out) | exact HB.out)) hb); have n4_ := Aside0.mk (hbox); have n5_ := Aside0.mk ((by rw [hg]; exact (below_size (by repeat (first | (with_reducible first | exact HB.out | apply below_alloc | apply pw_below_drewN | apply below_drew1 | refine below_set ?_ (IsS157.ge HI1337.out) | refine below_set ?_ GE1332.out | refine below_set ?_ GE1333.out) | exact HB.out))) : w.heap.size ≤ gb1342)); have n6_ := Aside0.mk ((by rw [hg]; exact (below_size (by repeat (first | (with_reducible first | exact HB.out | apply below_alloc | apply pw_below_drewN | apply below_drew1 | refine below_set ?_ (IsS157.ge HI1337.out) | refine below_set ?_ GE1332.out | refine below_set ?_ GE1333.out) | exact HB.out))) : w.heap.size ≤ gb1342)); have n7_ := Aside0.mk ((by rw [hg]; exact Nat.ne_of_lt (blk_lt (g := gb1332) (o := .cells #[.int .i64 0, .int .i64 0] 73 (0, 0)) (by (with_reducible repeat (first | refine blk_drewN ?_ _ | refine blk_drew ?_ | refine blk_alloc ?_ _)); exact BK1332.out)) : gb1332 ≠ gb1342)); have n8_ := Aside0.mk ((by rw [hg]; exact Nat.ne_of_gt (blk_lt (g := gb1332) (o := .cells #[.int .i64 0, .int .i64 0] 73 (0, 0)) (by (with_reducible repeat (first | refine blk_drewN ?_ _ | refine blk_drew ?_ | refine blk_alloc ?_ _)); exact BK1332.out)) : gb1342 ≠ gb1332)); have n9_ := Aside0.mk ((by rw [hg]; exact Nat.ne_of_lt (blk_lt (g := gb1333) (o := .cells #[.int .i64 0, .int .i64 0, .int .i64 0, .int .i64 0] 26 (0, 0)) (by (with_reducible repeat (first | refine blk_drewN ?_ _ | refine blk_drew ?_ | refine blk_alloc ?_ _)); exact BK1333.out)) : gb1333 ≠ gb1342)); have n10_ := Aside0.mk ((by rw [hg]; exact Nat.ne_of_gt (blk_lt (g := gb1333) (o := .cells #[.int .i64 0, .int .i64 0, .int .i64 0, .int .i64 0] 26 (0, 0)) (by (with_reducible repeat (first | refine blk_drewN ?_ _ | refine blk_drew ?_ | refine blk_alloc ?_ _)); exact BK1333.out)) : gb1342 ≠ gb1333)); have n11_ := Aside0.mk ((by rw [hg]; exact Nat.ne_of_lt (IsS157.lt (show IsS157 w _ g1337 t1334 t1340 t1341 from by repeat (first | (with_reducible first | exact HI1337.out | apply IsS157.alloc | apply IsS157.drewN | apply IsS157.drew | apply IsS157.set_1 | apply IsS157.set_2 | refine IsS157.far ?_ NB1337_1332.out _ | refine IsS157.far ?_ NB1337_1333.out _) | exact HI1337.out))) : g1337 ≠ gb1342)); have n12_ := Aside0.mk ((by rw [hg]; exact Nat.ne_of_gt (IsS157.lt (show IsS157 w _ g1337 t1334 t1340 t1341 from by repeat (first | (with_reducible first | exact HI1337.out | apply IsS157.alloc | apply IsS157.drewN | apply IsS157.drew | apply IsS157.set_1 | apply IsS157.set_2 | refine IsS157.far ?_ NB1337_1332.out _ | refine IsS157.far ?_ NB1337_1333.out _) | exact HI1337.out))) : gb1342 ≠ g1337)); clear BK1332; clear BK1333; clear HI1337; clear HB; have BK1332 := n0_; have BK1333 := n1_; have HI1337 := n2_; have HB := n3_; have BK1342 := n4_; have GW1342 := n5_; have GE1342 := n6_; have NB1332_1342 := n7_; have NB1342_1332 := n8_; have NB1333_1342 := n9_; have NB1342_1333 := n10_; have NB1337_1342 := n11_; have NB1342_1337 := n12_; clear n0_ n1_ n2_ n3_ n4_ n5_ n6_ n7_ n8_ n9_ n10_ n11_ n12_; clear hb hbox hg; have hnb45 := NB1342_1332.out; have hnc45 := NB1332_1342.out; have hnb46 := NB1342_1333.out; have hnc46 := NB1333_1342.out; have hnb47 := NB1342_1337.out; have hnc47 := NB1337_1342.out; have hcz48_0 : w44.cell? ⟨gb1342, 0, none⟩ = some (.int .i64 0) := (blk_cell BK1342.out 0).trans rfl; have hcz48_1 : w44.cell? ⟨gb1342, 1, none⟩ = some (.int .i64 0) := (blk_cell BK1342.out 1).trans rfl; have hfz48_0 := blk_frozen BK1342.out 0; have hfz48_1 := blk_frozen BK1342.out 1) | ((with_reducible refine gate_callee (f := 76) rfl ?_); refine goesL_ (some 12) rfl rfl Try.func76 (by kernel_rfl) rfl #[.pointer (some ⟨g1337, 0, none⟩)] rfl (by (try simp only [List.map_toArray, List.map_cons, List.map_nil]); first | done | rfl | (simp only [List.length_drop, List.length_take]; rfl)) ?_; (with_reducible refine (spec_l8Event.calls g1337 t1334 t1340 t1341 t1343 t1344 t1345 t1346 t1347 t1348 w _ ?side1 ?side2 A4.out).mono ?_); (case side1 => repeat (first | (with_reducible first | exact HI1337.out | apply IsS157.alloc | apply IsS157.drewN | apply IsS157.drew | apply IsS157.set_1 | apply IsS157.set_2 | refine IsS157.far ?_ NB1337_1332.out _ | refine IsS157.far ?_ NB1337_1333.out _ | refine IsS157.far ?_ NB1337_1342.out _) | exact HI1337.out)); (case side2 => repeat (first | (with_reducible first | exact HB.out | apply below_alloc | apply pw_below_drewN | apply below_drew1 | refine below_set ?_ (IsS157.ge HI1337.out) | refine below_set ?_ GE1332.out | refine below_set ?_ GE1333.out | refine below_set ?_ GE1342.out) | exact HB.out)); rintro e w49 ⟨rfl, hi, hb, hk⟩; refine ⟨_, rfl, ?_⟩; have n0_ := Aside0.mk (KeepBut.blk hk (g' := gb1332) (o := .cells #[.int .i64 0, .int .i64 0] 73 (0, 0)) (by (with_reducible repeat (first | refine blk_drewN ?_ _ | refine blk_drew ?_ | refine blk_alloc ?_ _)); refine blk_far ?_ NB1332_1342.out _; (with_reducible repeat (first | refine blk_drewN ?_ _ | refine blk_drew ?_ | refine blk_alloc ?_ _)); refine blk_far ?_ NB1332_1342.out _; (with_reducible repeat (first | refine blk_drewN ?_ _ | refine blk_drew ?_ | refine blk_alloc ?_ _)); exact BK1332.out) NB1332_1337.out (by simp)); have n1_ := Aside0.mk (KeepBut.blk hk (g' := gb1333) (o := .cells #[.int .i64 0, .int .i64 0, .int .i64 0, .int .i64 0] 26 (0, 0)) (by (with_reducible repeat (first | refine blk_drewN ?_ _ | refine blk_drew ?_ | refine blk_alloc ?_ _)); refine blk_far ?_ NB1333_1342.out _; (with_reducible repeat (first | refine blk_drewN ?_ _ | refine blk_drew ?_ | refine blk_alloc ?_ _)); refine blk_far ?_ NB1333_1342.out _; (with_reducible repeat (first | refine blk_drewN ?_ _ | refine blk_drew ?_ | refine blk_alloc ?_ _)); exact BK1333.out) NB1333_1337.out (by simp)); have n2_ := Aside0.mk (KeepBut.blk hk (g' := gb1342) (o := .cells #[.int .i64 t1338, .int .i64 t1339] 73 (0, 0)) (by (with_reducible repeat (first | refine blk_drewN ?_ _ | refine blk_drew ?_ | refine blk_alloc ?_ _)); refine blk_put (cs := #[.int .i64 t1338, .int .i64 0]) ?_ 1 _ rfl; (with_reducible repeat (first | refine blk_drewN ?_ _ | refine blk_drew ?_ | refine blk_alloc ?_ _)); refine blk_put (cs := #[.int .i64 0, .int .i64 0]) ?_ 0 _ rfl; (with_reducible repeat (first | refine blk_drewN ?_ _ | refine blk_drew ?_ | refine blk_alloc ?_ _)); exact BK1342.out) NB1342_1337.out (by simp)); have n3_ := Aside0.mk (hb); have n4_ := Aside0.mk (hi); clear BK1332; clear BK1333; clear BK1342; clear HB; clear HI1337; have BK1332 := n0_; have BK1333 := n1_; have BK1342 := n2_; have HB := n3_; have HI1337 := n4_; clear n0_ n1_ n2_ n3_ n4_; (try clear hb); (try clear hb2); (try clear hk); (try clear hi)) | ((with_reducible refine gate_dst (N := 6) rfl ?_); refine box_event ?hg (N := 6) ?hd (cs := #[.int .i64 0, .int .i64 0, .int .i64 0, .int .i64 0]) (t := 26) ?hr ?_; (case hd => rfl); (case hg => rfl); (case hr => first | (go_simp; done) | (go_simp; rfl)); intro gb1349 hg w50 hbox hb; have n0_ := Aside0.mk (blk_below (g := gb1332) (o := .cells #[.int .i64 0, .int .i64 0] 73 (0, 0)) (by (with_reducible repeat (first | refine blk_drewN ?_ _ | refine blk_drew ?_ | refine blk_alloc ?_ _)); exact BK1332.out) hb); have n1_ := Aside0.mk (blk_below (g := gb1333) (o := .cells #[.int .i64 0, .int .i64 0, .int .i64 0, .int .i64 0] 26 (0, 0)) (by (with_reducible repeat (first | refine blk_drewN ?_ _ | refine blk_drew ?_ | refine blk_alloc ?_ _)); exact BK1333.out) hb); have n2_ := Aside0.mk (IsS157.below (by repeat (first | (with_reducible first | exact HI1337.out | apply IsS157.alloc | apply IsS157.drewN | apply IsS157.drew | apply IsS157.set_1 | apply IsS157.set_2 | refine IsS157.far ?_ NB1337_1332.out _ | refine IsS157.far ?_ NB1337_1333.out _ | refine IsS157.far ?_ NB1337_1342.out _) | exact HI1337.out)) hb); have n3_ := Aside0.mk (blk_below (g := gb1342) (o := .cells #[.int .i64 t1338, .int .i64 t1339] 73 (0, 0)) (by (with_reducible repeat (first | refine blk_drewN ?_ _ | refine blk_drew ?_ | refine blk_alloc ?_ _)); exact BK1342.out) hb); have n4_ := Aside0.mk (below_step (by repeat (first | (with_reducible first | exact HB.out | apply below_alloc | apply pw_below_drewN | apply below_drew1 | refine below_set ?_ (IsS157.ge HI1337.out) | refine below_set ?_ GE1332.out | refine below_set ?_ GE1333.out | refine below_set ?_ GE1342.out) | exact HB.out)) hb); have n5_ := Aside0.mk (hbox); have n6_ := Aside0.mk ((by rw [hg]; exact (below_size (by repeat (first | (with_reducible first | exact HB.out | apply below_alloc | apply pw_below_drewN | apply below_drew1 | refine below_set ?_ (IsS157.ge HI1337.out) | refine below_set ?_ GE1332.out | refine below_set ?_ GE1333.out | refine below_set ?_ GE1342.out) | exact HB.out))) : w.heap.size ≤ gb1349)); have n7_ := Aside0.mk ((by rw [hg]; exact (below_size (by repeat (first | (with_reducible first | exact HB.out | apply below_alloc | apply pw_below_drewN | apply below_drew1 | refine below_set ?_ (IsS157.ge HI1337.out) | refine below_set ?_ GE1332.out | refine below_set ?_ GE1333.out | refine below_set ?_ GE1342.out) | exact HB.out))) : w.heap.size ≤ gb1349)); have n8_ := Aside0.mk ((by rw [hg]; exact Nat.ne_of_lt (blk_lt (g := gb1332) (o := .cells #[.int .i64 0, .int .i64 0] 73 (0, 0)) (by (with_reducible repeat (first | refine blk_drewN ?_ _ | refine blk_drew ?_ | refine blk_alloc ?_ _)); exact BK1332.out)) : gb1332 ≠ gb1349)); have n9_ := Aside0.mk ((by rw [hg]; exact Nat.ne_of_gt (blk_lt (g := gb1332) (o := .cells #[.int .i64 0, .int .i64 0] 73 (0, 0)) (by (with_reducible repeat (first | refine blk_drewN ?_ _ | refine blk_drew ?_ | refine blk_alloc ?_ _)); exact BK1332.out)) : gb1349 ≠ gb1332)); have n10_ := Aside0.mk ((by rw [hg]; exact Nat.ne_of_lt (blk_lt (g := gb1333) (o := .cells #[.int .i64 0, .int .i64 0, .int .i64 0, .int .i64 0] 26 (0, 0)) (by (with_reducible repeat (first | refine blk_drewN ?_ _ | refine blk_drew ?_ | refine blk_alloc ?_ _)); exact BK1333.out)) : gb1333 ≠ gb1349)); have n11_ := Aside0.mk ((by rw [hg]; exact Nat.ne_of_gt (blk_lt (g := gb1333) (o := .cells #[.int .i64 0, .int .i64 0, .int .i64 0, .int .i64 0] 26 (0, 0)) (by (with_reducible repeat (first | refine blk_drewN ?_ _ | refine blk_drew ?_ | refine blk_alloc ?_ _)); exact BK1333.out)) : gb1349 ≠ gb1333)); have n12_ := Aside0.mk ((by rw [hg]; exact Nat.ne_of_lt (blk_lt (g := gb1342) (o := .cells #[.int .i64 t1338, .int .i64 t1339] 73 (0, 0)) (by (with_reducible repeat (first | refine blk_drewN ?_ _ | refine blk_drew ?_ | refine blk_alloc ?_ _)); exact BK1342.out)) : gb1342 ≠ gb1349)); have n13_ := Aside0.mk ((by rw [hg]; exact Nat.ne_of_gt (blk_lt (g := gb1342) (o := .cells #[.int .i64 t1338, .int .i64 t1339] 73 (0, 0)) (by (with_reducible repeat (first | refine blk_drewN ?_ _ | refine blk_drew ?_ | refine blk_alloc ?_ _)); exact BK1342.out)) : gb1349 ≠ gb1342)); have n14_ := Aside0.mk ((by rw [hg]; exact Nat.ne_of_lt (IsS157.lt (show IsS157 w _ g1337 t1334 t1347 t1348 from by repeat (first | (with_reducible first | exact HI1337.out | apply IsS157.alloc | apply IsS157.drewN | apply IsS157.drew | apply IsS157.set_1 | apply IsS157.set_2 | refine IsS157.far ?_ NB1337_1332.out _ | refine IsS157.far ?_ NB1337_1333.out _ | refine IsS157.far ?_ NB1337_1342.out _) | exact HI1337.out))) : g1337 ≠ gb1349)); have n15_ := Aside0.mk ((by rw [hg]; exact Nat.ne_of_gt (IsS157.lt (show IsS157 w _ g1337 t1334 t1347 t1348 from by repeat (first | (with_reducible first | exact HI1337.out | apply IsS157.alloc | apply IsS157.drewN | apply IsS157.drew | apply IsS157.set_1 | apply IsS157.set_2 | refine IsS157.far ?_ NB1337_1332.out _ | refine IsS157.far ?_ NB1337_1333.out _ | refine IsS157.far ?_ NB1337_1342.out _) | exact HI1337.out))) : gb1349 ≠ g1337)); clear BK1332; clear BK1333; clear HI1337; clear BK1342; clear HB; have BK1332 := n0_; have BK1333 := n1_; have HI1337 := n2_; have BK1342 := n3_; have HB := n4_; have BK1349 := n5_; have GW1349 := n6_; have GE1349 := n7_; have NB1332_1349 := n8_; have NB1349_1332 := n9_; have NB1333_1349 := n10_; have NB1349_1333 := n11_; have NB1342_1349 := n12_; have NB1349_1342 := n13_; have NB1337_1349 := n14_; have NB1349_1337 := n15_; clear n0_ n1_ n2_ n3_ n4_ n5_ n6_ n7_ n8_ n9_ n10_ n11_ n12_ n13_ n14_ n15_; clear hb hbox hg; have hnb51 := NB1349_1332.out; have hnc51 := NB1332_1349.out; have hnb52 := NB1349_1333.out; have hnc52 := NB1333_1349.out; have hnb53 := NB1349_1342.out; have hnc53 := NB1342_1349.out; have hnb54 := NB1349_1337.out; have hnc54 := NB1337_1349.out; have hcz55_0 : w50.cell? ⟨gb1349, 0, none⟩ = some (.int .i64 0) := (blk_cell BK1349.out 0).trans rfl; have hcz55_1 : w50.cell? ⟨gb1349, 1, none⟩ = some (.int .i64 0) := (blk_cell BK1349.out 1).trans rfl; have hcz55_2 : w50.cell? ⟨gb1349, 2, none⟩ = some (.int .i64 0) := (blk_cell BK1349.out 2).trans rfl; have hcz55_3 : w50.cell? ⟨gb1349, 3, none⟩ = some (.int .i64 0) := (blk_cell BK1349.out 3).trans rfl; have hfz55_0 := blk_frozen BK1349.out 0; have hfz55_1 := blk_frozen BK1349.out 1; have hfz55_2 := blk_frozen BK1349.out 2; have hfz55_3 := blk_frozen BK1349.out 3) | ((with_reducible refine gate_callee (f := 91) rfl ?_); refine goesL_ (some 14) rfl rfl Try.func91 (by kernel_rfl) rfl #[.pointer (some ⟨g1337, 0, none⟩), .int .i64 7] rfl (by (try simp only [List.map_toArray, List.map_cons, List.map_nil]); first | done | rfl | (simp only [List.length_drop, List.length_take]; rfl)) ?_; (with_reducible refine (spec_l1Below.calls g1337 t1334 t1347 t1348 7 t1350 t1351 t1352 w _ ?side1 ?side2 A5.out).mono ?_); (case side1 => repeat (first | (with_reducible first | exact HI1337.out | apply IsS157.alloc | apply IsS157.drewN | apply IsS157.drew | apply IsS157.set_1 | apply IsS157.set_2 | refine IsS157.far ?_ NB1337_1332.out _ | refine IsS157.far ?_ NB1337_1333.out _ | refine IsS157.far ?_ NB1337_1342.out _ | refine IsS157.far ?_ NB1337_1349.out _) | exact HI1337.out)); (case side2 => repeat (first | (with_reducible first | exact HB.out | apply below_alloc | apply pw_below_drewN | apply below_drew1 | refine below_set ?_ (IsS157.ge HI1337.out) | refine below_set ?_ GE1332.out | refine below_set ?_ GE1333.out | refine below_set ?_ GE1342.out | refine below_set ?_ GE1349.out) | exact HB.out)); rintro e w56 ⟨rfl, hi, hb, hk⟩; refine ⟨_, rfl, ?_⟩; have n0_ := Aside0.mk (KeepBut.blk hk (g' := gb1332) (o := .cells #[.int .i64 0, .int .i64 0] 73 (0, 0)) (by (with_reducible repeat (first | refine blk_drewN ?_ _ | refine blk_drew ?_ | refine blk_alloc ?_ _)); refine blk_far ?_ NB1332_1349.out _; (with_reducible repeat (first | refine blk_drewN ?_ _ | refine blk_drew ?_ | refine blk_alloc ?_ _)); refine blk_far ?_ NB1332_1349.out _; (with_reducible repeat (first | refine blk_drewN ?_ _ | refine blk_drew ?_ | refine blk_alloc ?_ _)); refine blk_far ?_ NB1332_1349.out _; (with_reducible repeat (first | refine blk_drewN ?_ _ | refine blk_drew ?_ | refine blk_alloc ?_ _)); refine blk_far ?_ NB1332_1349.out _; (with_reducible repeat (first | refine blk_drewN ?_ _ | refine blk_drew ?_ | refine blk_alloc ?_ _)); exact BK1332.out) NB1332_1337.out (by simp)); have n1_ := Aside0.mk (KeepBut.blk hk (g' := gb1333) (o := .cells #[.int .i64 0, .int .i64 0, .int .i64 0, .int .i64 0] 26 (0, 0)) (by (with_reducible repeat (first | refine blk_drewN ?_ _ | refine blk_drew ?_ | refine blk_alloc ?_ _)); refine blk_far ?_ NB1333_1349.out _; (with_reducible repeat (first | refine blk_drewN ?_ _ | refine blk_drew ?_ | refine blk_alloc ?_ _)); refine blk_far ?_ NB1333_1349.out _; (with_reducible repeat (first | refine blk_drewN ?_ _ | refine blk_drew ?_ | refine blk_alloc ?_ _)); refine blk_far ?_ NB1333_1349.out _; (with_reducible repeat (first | refine blk_drewN ?_ _ | refine blk_drew ?_ | refine blk_alloc ?_ _)); refine blk_far ?_ NB1333_1349.out _; (with_reducible repeat (first | refine blk_drewN ?_ _ | refine blk_drew ?_ | refine blk_alloc ?_ _)); exact BK1333.out) NB1333_1337.out (by simp)); have n2_ := Aside0.mk (KeepBut.blk hk (g' := gb1342) (o := .cells #[.int .i64 t1338, .int .i64 t1339] 73 (0, 0)) (by (with_reducible repeat (first | refine blk_drewN ?_ _ | refine blk_drew ?_ | refine blk_alloc ?_ _)); refine blk_far ?_ NB1342_1349.out _; (with_reducible repeat (first | refine blk_drewN ?_ _ | refine blk_drew ?_ | refine blk_alloc ?_ _)); refine blk_far ?_ NB1342_1349.out _; (with_reducible repeat (first | refine blk_drewN ?_ _ | refine blk_drew ?_ | refine blk_alloc ?_ _)); refine blk_far ?_ NB1342_1349.out _; (with_reducible repeat (first | refine blk_drewN ?_ _ | refine blk_drew ?_ | refine blk_alloc ?_ _)); refine blk_far ?_ NB1342_1349.out _; (with_reducible repeat (first | refine blk_drewN ?_ _ | refine blk_drew ?_ | refine blk_alloc ?_ _)); exact BK1342.out) NB1342_1337.out (by simp)); have n3_ := Aside0.mk (KeepBut.blk hk (g' := gb1349) (o := .cells #[.int .i64 t1343, .int .i64 t1344, .int .i64 t1345, .int .i64 t1346] 26 (0, 0)) (by (with_reducible repeat (first | refine blk_drewN ?_ _ | refine blk_drew ?_ | refine blk_alloc ?_ _)); refine blk_put (cs := #[.int .i64 t1343, .int .i64 t1344, .int .i64 t1345, .int .i64 0]) ?_ 3 _ rfl; (with_reducible repeat (first | refine blk_drewN ?_ _ | refine blk_drew ?_ | refine blk_alloc ?_ _)); refine blk_put (cs := #[.int .i64 t1343, .int .i64 t1344, .int .i64 0, .int .i64 0]) ?_ 2 _ rfl; (with_reducible repeat (first | refine blk_drewN ?_ _ | refine blk_drew ?_ | refine blk_alloc ?_ _)); refine blk_put (cs := #[.int .i64 t1343, .int .i64 0, .int .i64 0, .int .i64 0]) ?_ 1 _ rfl; (with_reducible repeat (first | refine blk_drewN ?_ _ | refine blk_drew ?_ | refine blk_alloc ?_ _)); refine blk_put (cs := #[.int .i64 0, .int .i64 0, .int .i64 0, .int .i64 0]) ?_ 0 _ rfl; (with_reducible repeat (first | refine blk_drewN ?_ _ | refine blk_drew ?_ | refine blk_alloc ?_ _)); exact BK1349.out) NB1349_1337.out (by simp)); have n4_ := Aside0.mk (hb); have n5_ := Aside0.mk (hi); clear BK1332; clear BK1333; clear BK1342; clear BK1349; clear HB; clear HI1337; have BK1332 := n0_; have BK1333 := n1_; have BK1342 := n2_; have BK1349 := n3_; have HB := n4_; have HI1337 := n5_; clear n0_ n1_ n2_ n3_ n4_ n5_; (try clear hb); (try clear hb2); (try clear hk); (try clear hi)) | ((with_reducible refine gate_dst (N := 24) rfl ?_); refine Kd.R_lit (Kd.int .i64) _ 3 ?hg (N := 24) ?hd (xs := ([0, 96, 97] : List Int)) (inner := [.int .i64 0, .int .i64 96, .int .i64 97]) (ok := fun _ => True) (okp := fun _ => True) ?hr ?hp (fun _ hk => hk) trivial (Below.refl _ _) (Nat.le_refl _) (by simp) ?_; (case hd => rfl); (case hg => rfl); (case hr => first | (go_simp; done) | (go_simp; rfl)); (case hp => exact (Reps.one (show Kd.M (Kd.int .i64) _ _ _ 0 [.int .i64 0] from rfl) (Reps.one (show Kd.M (Kd.int .i64) _ _ _ 96 [.int .i64 96] from rfl) (Reps.one (show Kd.M (Kd.int .i64) _ _ _ 97 [.int .i64 97] from rfl) (Reps.none _ _))))); intro v1360 w57 ho58 hb hg_ hnew_; clear hg_ hnew_; (first | rw [← Ny1359.out] at ho58 | (simp only [Int.reduceToNat] at ho58; rw [← Ny1359.out] at ho58)); have n0_ := Aside0.mk (Kd.R_lower ho58 (below_size (by repeat (first | (with_reducible first | exact HB.out | apply below_alloc | apply pw_below_drewN | apply below_drew1 | refine below_set ?_ (IsS157.ge HI1337.out) | refine below_set ?_ GE1332.out | refine below_set ?_ GE1333.out | refine below_set ?_ GE1342.out | refine below_set ?_ GE1349.out) | exact HB.out)))); have n1_ := Aside0.mk (blk_below (g := gb1332) (o := .cells #[.int .i64 0, .int .i64 0] 73 (0, 0)) (by (with_reducible repeat (first | refine blk_drewN ?_ _ | refine blk_drew ?_ | refine blk_alloc ?_ _)); exact BK1332.out) hb); have n2_ := Aside0.mk (blk_below (g := gb1333) (o := .cells #[.int .i64 0, .int .i64 0, .int .i64 0, .int .i64 0] 26 (0, 0)) (by (with_reducible repeat (first | refine blk_drewN ?_ _ | refine blk_drew ?_ | refine blk_alloc ?_ _)); exact BK1333.out) hb); have n3_ := Aside0.mk (IsS157.below (by repeat (first | (with_reducible first | exact HI1337.out | apply IsS157.alloc | apply IsS157.drewN | apply IsS157.drew | apply IsS157.set_1 | apply IsS157.set_2 | refine IsS157.far ?_ NB1337_1332.out _ | refine IsS157.far ?_ NB1337_1333.out _ | refine IsS157.far ?_ NB1337_1342.out _ | refine IsS157.far ?_ NB1337_1349.out _) | exact HI1337.out)) hb); have n4_ := Aside0.mk (blk_below (g := gb1342) (o := .cells #[.int .i64 t1338, .int .i64 t1339] 73 (0, 0)) (by (with_reducible repeat (first | refine blk_drewN ?_ _ | refine blk_drew ?_ | refine blk_alloc ?_ _)); exact BK1342.out) hb); have n5_ := Aside0.mk (blk_below (g := gb1349) (o := .cells #[.int .i64 t1343, .int .i64 t1344, .int .i64 t1345, .int .i64 t1346] 26 (0, 0)) (by (with_reducible repeat (first | refine blk_drewN ?_ _ | refine blk_drew ?_ | refine blk_alloc ?_ _)); exact BK1349.out) hb); have n6_ := Aside0.mk (below_step (by repeat (first | (with_reducible first | exact HB.out | apply below_alloc | apply pw_below_drewN | apply below_drew1 | refine below_set ?_ (IsS157.ge HI1337.out) | refine below_set ?_ GE1332.out | refine below_set ?_ GE1333.out | refine below_set ?_ GE1342.out | refine below_set ?_ GE1349.out) | exact HB.out)) hb); clear BK1332; clear BK1333; clear HI1337; clear BK1342; clear BK1349; clear HB; have HO1361 := n0_; have BK1332 := n1_; have BK1333 := n2_; have HI1337 := n3_; have BK1342 := n4_; have BK1349 := n5_; have HB := n6_; clear n0_ n1_ n2_ n3_ n4_ n5_ n6_; clear hb ho58; obtain ⟨Ao59, co59, eo59⟩ := Kd.R_slice HO1361.out; subst eo59) | ((with_reducible refine gate_callee (f := 78) rfl ?_); refine goesL_ (some 25) rfl rfl Try.func78 (by kernel_rfl) rfl #[.pointer (some ⟨g1337, 0, none⟩), .slice Ao59 y1359.length co59] rfl (by (try simp only [List.map_toArray, List.map_cons, List.map_nil]); first | done | rfl | (simp only [List.length_drop, List.length_take]; rfl)) ?_; (with_reducible refine (spec_l1Int.calls g1337 t1334 t1351 t1352 _ _ y1359 t1362 t1363 t1364 w _ ?side1 ?side2 ?side3 ?side4 ?side5 A39.out).mono ?_); (case side1 => repeat (first | (with_reducible first | exact HI1337.out | apply IsS157.alloc | apply IsS157.drewN | apply IsS157.drew | apply IsS157.set_1 | apply IsS157.set_2 | refine IsS157.far ?_ NB1337_1332.out _ | refine IsS157.far ?_ NB1337_1333.out _ | refine IsS157.far ?_ NB1337_1342.out _ | refine IsS157.far ?_ NB1337_1349.out _) | exact HI1337.out)); (case side2 => repeat (first | (with_reducible first | exact HB.out | apply below_alloc | apply pw_below_drewN | apply below_drew1 | refine below_set ?_ (IsS157.ge HI1337.out) | refine below_set ?_ GE1332.out | refine below_set ?_ GE1333.out | refine below_set ?_ GE1342.out | refine below_set ?_ GE1349.out) | exact HB.out)); (case side3 => repeat (first | exact (Kd.R_reads' HO1361.out).2.2 | (with_reducible refine Kd.C_alloc ?_ _) | (with_reducible refine Kd.C_drewN ?_ _) | (with_reducible refine Kd.C_drew ?_))); (case side4 => exact (Kd.R_reads' HO1361.out).2.1); (case side5 => exact far_slice (IsS157.own_ne HI1337.out HO1361.out (by decide))); rintro e w60 ⟨rfl, hi, hb, hk⟩; refine ⟨_, rfl, ?_⟩; have n0_ := Aside0.mk (KeepBut.blk hk (g' := gb1332) (o := .cells #[.int .i64 0, .int .i64 0] 73 (0, 0)) (by (with_reducible repeat (first | refine blk_drewN ?_ _ | refine blk_drew ?_ | refine blk_alloc ?_ _)); exact BK1332.out) NB1332_1337.out (by simp)); have n1_ := Aside0.mk (KeepBut.blk hk (g' := gb1333) (o := .cells #[.int .i64 0, .int .i64 0, .int .i64 0, .int .i64 0] 26 (0, 0)) (by (with_reducible repeat (first | refine blk_drewN ?_ _ | refine blk_drew ?_ | refine blk_alloc ?_ _)); exact BK1333.out) NB1333_1337.out (by simp)); have n2_ := Aside0.mk (KeepBut.blk hk (g' := gb1342) (o := .cells #[.int .i64 t1338, .int .i64 t1339] 73 (0, 0)) (by (with_reducible repeat (first | refine blk_drewN ?_ _ | refine blk_drew ?_ | refine blk_alloc ?_ _)); exact BK1342.out) NB1342_1337.out (by simp)); have n3_ := Aside0.mk (KeepBut.blk hk (g' := gb1349) (o := .cells #[.int .i64 t1343, .int .i64 t1344, .int .i64 t1345, .int .i64 t1346] 26 (0, 0)) (by (with_reducible repeat (first | refine blk_drewN ?_ _ | refine blk_drew ?_ | refine blk_alloc ?_ _)); exact BK1349.out) NB1349_1337.out (by simp)); have n4_ := Aside0.mk (Kd.R_mono (Kd.R_keep (IsS157.apart (show IsS157 w _ g1337 t1334 t1351 t1352 from by repeat (first | (with_reducible first | exact HI1337.out | apply IsS157.alloc | apply IsS157.drewN | apply IsS157.drew | apply IsS157.set_1 | apply IsS157.set_2 | refine IsS157.far ?_ NB1337_1332.out _ | refine IsS157.far ?_ NB1337_1333.out _ | refine IsS157.far ?_ NB1337_1342.out _ | refine IsS157.far ?_ NB1337_1349.out _) | exact HI1337.out)) (by (with_reducible repeat (first | apply Kd.R_alloc | apply Kd.R_drewN | apply Kd.R_drew)); exact HO1361.out) (by decide)) hk (fun _ h => h.2)) (fun _ h => h.1)); have n5_ := Aside0.mk (hb); have n6_ := Aside0.mk (hi); clear BK1332; clear BK1333; clear BK1342; clear BK1349; clear HO1361; clear HB; clear HI1337; have BK1332 := n0_; have BK1333 := n1_; have BK1342 := n2_; have BK1349 := n3_; have HO1361 := n4_; have HB := n5_; have HI1337 := n6_; clear n0_ n1_ n2_ n3_ n4_ n5_ n6_; (try clear hb); (try clear hb2); (try clear hk); (try clear hi); have hcz61_0 : w60.cell? ⟨gb1349, 0, none⟩ = some (.int .i64 t1343) := (blk_cell BK1349.out 0).trans rfl; have hcz61_1 : w60.cell? ⟨gb1349, 1, none⟩ = some (.int .i64 t1344) := (blk_cell BK1349.out 1).trans rfl; have hcz61_2 : w60.cell? ⟨gb1349, 2, none⟩ = some (.int .i64 t1345) := (blk_cell BK1349.out 2).trans rfl; have hcz61_3 : w60.cell? ⟨gb1349, 3, none⟩ = some (.int .i64 t1346) := (blk_cell BK1349.out 3).trans rfl; have hfz61_0 := blk_frozen BK1349.out 0; have hfz61_1 := blk_frozen BK1349.out 1; have hfz61_2 := blk_frozen BK1349.out 2; have hfz61_3 := blk_frozen BK1349.out 3))
   have n0_ : Aside0 (Kd.R (Kd.int .i64) 3 (w60.setCell ⟨gb1349, 1, none⟩ (.int .i64 t1362)) w.heap.size (fun _ => True) (.slice Ao59 y1359.length co59) y1359) := ⟨by (with_reducible repeat (first | apply Kd.R_alloc | apply Kd.R_drewN | apply Kd.R_drew)); exact Kd.R_mono (Kd.R_far (p := ⟨gb1349, 1, none⟩) (Kd.R_types HO1361.out BK1349.out (by decide)) (fun _ hk => hk.2) (.int .i64 t1362)) (fun _ hk => trivial)⟩
   have n1_ : Aside0 ((w60.setCell ⟨gb1349, 1, none⟩ (.int .i64 t1362)).heap[gb1332]? = some (.cells #[.int .i64 0, .int .i64 0] 73 (0, 0))) := ⟨by (with_reducible repeat (first | refine blk_drewN ?_ _ | refine blk_drew ?_ | refine blk_alloc ?_ _)); refine blk_far ?_ NB1332_1349.out _; (with_reducible repeat (first | refine blk_drewN ?_ _ | refine blk_drew ?_ | refine blk_alloc ?_ _)); exact BK1332.out⟩
   have n2_ : Aside0 ((w60.setCell ⟨gb1349, 1, none⟩ (.int .i64 t1362)).heap[gb1333]? = some (.cells #[.int .i64 0, .int .i64 0, .int .i64 0, .int .i64 0] 26 (0, 0))) := ⟨by (with_reducible repeat (first | refine blk_drewN ?_ _ | refine blk_drew ?_ | refine blk_alloc ?_ _)); refine blk_far ?_ NB1333_1349.out _; (with_reducible repeat (first | refine blk_drewN ?_ _ | refine blk_drew ?_ | refine blk_alloc ?_ _)); exact BK1333.out⟩
   have n3_ : Aside0 ((w60.setCell ⟨gb1349, 1, none⟩ (.int .i64 t1362)).heap[gb1342]? = some (.cells #[.int .i64 t1338, .int .i64 t1339] 73 (0, 0))) := ⟨by (with_reducible repeat (first | refine blk_drewN ?_ _ | refine blk_drew ?_ | refine blk_alloc ?_ _)); refine blk_far ?_ NB1342_1349.out _; (with_reducible repeat (first | refine blk_drewN ?_ _ | refine blk_drew ?_ | refine blk_alloc ?_ _)); exact BK1342.out⟩
   have n4_ : Aside0 ((w60.setCell ⟨gb1349, 1, none⟩ (.int .i64 t1362)).heap[gb1349]? = some (.cells #[.int .i64 t1343, .int .i64 t1362, .int .i64 t1345, .int .i64 t1346] 26 (0, 0))) := ⟨by (with_reducible repeat (first | refine blk_drewN ?_ _ | refine blk_drew ?_ | refine blk_alloc ?_ _)); refine blk_put (cs := #[.int .i64 t1343, .int .i64 t1344, .int .i64 t1345, .int .i64 t1346]) ?_ 1 _ rfl; (with_reducible repeat (first | refine blk_drewN ?_ _ | refine blk_drew ?_ | refine blk_alloc ?_ _)); exact BK1349.out⟩
   have n5_ : Aside0 (IsS157 w (w60.setCell ⟨gb1349, 1, none⟩ (.int .i64 t1362)) g1337 t1334 t1363 t1364) := ⟨by repeat (first | (with_reducible first | exact HI1337.out | apply IsS157.alloc | apply IsS157.drewN | apply IsS157.drew | apply IsS157.set_1 | apply IsS157.set_2 | refine IsS157.far ?_ NB1337_1332.out _ | refine IsS157.far ?_ NB1337_1333.out _ | refine IsS157.far ?_ NB1337_1342.out _ | refine IsS157.far ?_ NB1337_1349.out _) | exact HI1337.out)⟩
   have n6_ : Aside0 (Below w.heap.size w (w60.setCell ⟨gb1349, 1, none⟩ (.int .i64 t1362))) := ⟨by repeat (first | (with_reducible first | exact HB.out | apply below_alloc | apply pw_below_drewN | apply below_drew1 | refine below_set ?_ (IsS157.ge HI1337.out) | refine below_set ?_ GE1332.out | refine below_set ?_ GE1333.out | refine below_set ?_ GE1342.out | refine below_set ?_ GE1349.out) | exact HB.out)⟩
   (try clear HO1361)
   (try clear BK1332)
   (try clear BK1333)
   (try clear BK1342)
   (try clear BK1349)
   (try clear HI1337)
   (try clear HB)
   generalize (w60.setCell ⟨gb1349, 1, none⟩ (.int .i64 t1362)) = w62 at n0_ n1_ n2_ n3_ n4_ n5_ n6_ ⊢
   have HO1361 := n0_
   have BK1332 := n1_
   have BK1333 := n2_
   have BK1342 := n3_
   have BK1349 := n4_
   have HI1337 := n5_
   have HB := n6_
   clear n0_ n1_ n2_ n3_ n4_ n5_ n6_
   have n0_ := Aside0.mk (Kd.R_drew HO1361.out)
   have n1_ := Aside0.mk (blk_drew BK1332.out)
   have n2_ := Aside0.mk (blk_drew BK1333.out)
   have n3_ := Aside0.mk (blk_drew BK1342.out)
   have n4_ := Aside0.mk (blk_drew BK1349.out)
   have n5_ := Aside0.mk (IsS157.drew HI1337.out)
   have n6_ := Aside0.mk (below_drew1 HB.out)
   clear HO1361
   clear BK1332
   clear BK1333
   clear BK1342
   clear BK1349
   clear HI1337
   clear HB
   have HO1361 := n0_
   have BK1332 := n1_
   have BK1333 := n2_
   have BK1342 := n3_
   have BK1349 := n4_
   have HI1337 := n5_
   have HB := n6_
   clear n0_ n1_ n2_ n3_ n4_ n5_ n6_
   refine start_ (n := 4) (S := fun w' => w'.cell? ⟨gb1342, 0, none⟩ = some (.int .i64 t1338) ∧ w'.cell? ⟨gb1342, 1, none⟩ = some (.int .i64 t1339) ∧ w'.cell? ⟨gb1349, 0, none⟩ = some (.int .i64 t1343) ∧ w'.cell? ⟨gb1349, 1, none⟩ = some (.int .i64 t1362) ∧ w'.cell? ⟨gb1349, 2, none⟩ = some (.int .i64 t1345) ∧ w'.cell? ⟨gb1349, 3, none⟩ = some (.int .i64 t1346)) (ds := []) #[false, false, false, false] (by kernel_rfl) rfl rfl ⟨(blk_cell BK1342.out 0).trans rfl, (blk_cell BK1342.out 1).trans rfl, (blk_cell BK1349.out 0).trans rfl, (blk_cell BK1349.out 1).trans rfl, (blk_cell BK1349.out 2).trans rfl, (blk_cell BK1349.out 3).trans rfl⟩ (fun hHeld => ?_)
   generalize w62.drew = w63 at HO1361 BK1332 BK1333 BK1342 BK1349 HI1337 HB hHeld ⊢
   refine take_ (i := 0) (N := some 27) (v := ?_) (a' := ?_) #[true, false, false, false] rfl rfl (by kernel_rfl) (fun _ _ _ h => h) (Or.inl ⟨by rfl, ?_⟩) hHeld ?_ ?_
   rotate_left
   ·
    rintro w' ⟨s0, s1, s2, s3, s4, s5⟩
    go_simp
    with_reducible rfl
   rotate_left
   ·
    simp only [Act.put, List.setIfInBounds_toArray, List.set_cons_zero, List.set_cons_succ, i64_w, i32_w]
    rfl
   refine take_ (i := 1) (N := some 28) (v := ?_) (a' := ?_) #[true, true, false, false] rfl rfl (by kernel_rfl) (fun _ _ _ h => h) (Or.inl ⟨by rfl, ?_⟩) hHeld ?_ ?_
   rotate_left
   ·
    rintro w' ⟨s0, s1, s2, s3, s4, s5⟩
    go_simp
    with_reducible rfl
   rotate_left
   ·
    simp only [Act.put, List.setIfInBounds_toArray, List.set_cons_zero, List.set_cons_succ, i64_w, i32_w]
    rfl
   refine one_ (i := 2) (N := none) #[true, true, true, false] rfl rfl (by kernel_rfl) (by decide) (fun K hK => ?_)
   have hs64 : w63.cell? ⟨gb1332, 0, none⟩ = some (.int .i64 0) := (blk_cell BK1332.out 0).trans rfl
   have hfs64 := blk_frozen BK1332.out 0
   have hns64_1 := NB1333_1332.out
   have hns64_2 := NB1342_1332.out
   have hns64_3 := NB1349_1332.out
   have hms64_1 := NB1332_1333.out
   have hms64_2 := NB1332_1342.out
   have hms64_3 := NB1332_1349.out
   have hs65 : w63.cell? ⟨gb1332, 1, none⟩ = some (.int .i64 0) := (blk_cell BK1332.out 1).trans rfl
   have hfs65 := blk_frozen BK1332.out 1
   have hns65_1 := NB1333_1332.out
   have hns65_2 := NB1342_1332.out
   have hns65_3 := NB1349_1332.out
   have hms65_1 := NB1332_1333.out
   have hms65_2 := NB1332_1342.out
   have hms65_3 := NB1332_1349.out
   refine skip_ (w1 := ?_) (by rfl) rfl ?_ ?_
   rotate_left
   ·
    go_simp
    rfl
   refine hK.out _ _ ⟨((cell_far (p := ⟨gb1332, _, none⟩) NB1342_1332.out _).trans (((cell_far (p := ⟨gb1332, _, none⟩) NB1342_1332.out _).trans (hHeld.1)))), ((cell_far (p := ⟨gb1332, _, none⟩) NB1342_1332.out _).trans (((cell_far (p := ⟨gb1332, _, none⟩) NB1342_1332.out _).trans (hHeld.2.1)))), ((cell_far (p := ⟨gb1332, _, none⟩) NB1349_1332.out _).trans (((cell_far (p := ⟨gb1332, _, none⟩) NB1349_1332.out _).trans (hHeld.2.2.1)))), ((cell_far (p := ⟨gb1332, _, none⟩) NB1349_1332.out _).trans (((cell_far (p := ⟨gb1332, _, none⟩) NB1349_1332.out _).trans (hHeld.2.2.2.1)))), ((cell_far (p := ⟨gb1332, _, none⟩) NB1349_1332.out _).trans (((cell_far (p := ⟨gb1332, _, none⟩) NB1349_1332.out _).trans (hHeld.2.2.2.2.1)))), ((cell_far (p := ⟨gb1332, _, none⟩) NB1349_1332.out _).trans (((cell_far (p := ⟨gb1332, _, none⟩) NB1349_1332.out _).trans (hHeld.2.2.2.2.2))))⟩ (fun hHeld => ?_)
   clear hK K
   refine one_ (i := 3) (N := none) #[true, true, true, true] rfl rfl (by kernel_rfl) (by decide) (fun K hK => ?_)
   have hs66 : w63.cell? ⟨gb1333, 0, none⟩ = some (.int .i64 0) := (blk_cell BK1333.out 0).trans rfl
   have hfs66 := blk_frozen BK1333.out 0
   have hns66_0 := NB1332_1333.out
   have hns66_2 := NB1342_1333.out
   have hns66_3 := NB1349_1333.out
   have hms66_0 := NB1333_1332.out
   have hms66_2 := NB1333_1342.out
   have hms66_3 := NB1333_1349.out
   have hs67 : w63.cell? ⟨gb1333, 1, none⟩ = some (.int .i64 0) := (blk_cell BK1333.out 1).trans rfl
   have hfs67 := blk_frozen BK1333.out 1
   have hns67_0 := NB1332_1333.out
   have hns67_2 := NB1342_1333.out
   have hns67_3 := NB1349_1333.out
   have hms67_0 := NB1333_1332.out
   have hms67_2 := NB1333_1342.out
   have hms67_3 := NB1333_1349.out
   have hs68 : w63.cell? ⟨gb1333, 2, none⟩ = some (.int .i64 0) := (blk_cell BK1333.out 2).trans rfl
   have hfs68 := blk_frozen BK1333.out 2
   have hns68_0 := NB1332_1333.out
   have hns68_2 := NB1342_1333.out
   have hns68_3 := NB1349_1333.out
   have hms68_0 := NB1333_1332.out
   have hms68_2 := NB1333_1342.out
   have hms68_3 := NB1333_1349.out
   have hs69 : w63.cell? ⟨gb1333, 3, none⟩ = some (.int .i64 0) := (blk_cell BK1333.out 3).trans rfl
   have hfs69 := blk_frozen BK1333.out 3
   have hns69_0 := NB1332_1333.out
   have hns69_2 := NB1342_1333.out
   have hns69_3 := NB1349_1333.out
   have hms69_0 := NB1333_1332.out
   have hms69_2 := NB1333_1342.out
   have hms69_3 := NB1333_1349.out
   refine skip_ (w1 := ?_) (by rfl) rfl ?_ ?_
   rotate_left
   ·
    go_simp
    rfl
   refine hK.out _ _ ⟨((cell_far (p := ⟨gb1333, _, none⟩) NB1342_1333.out _).trans (((cell_far (p := ⟨gb1333, _, none⟩) NB1342_1333.out _).trans (((cell_far (p := ⟨gb1333, _, none⟩) NB1342_1333.out _).trans (((cell_far (p := ⟨gb1333, _, none⟩) NB1342_1333.out _).trans (hHeld.1)))))))), ((cell_far (p := ⟨gb1333, _, none⟩) NB1342_1333.out _).trans (((cell_far (p := ⟨gb1333, _, none⟩) NB1342_1333.out _).trans (((cell_far (p := ⟨gb1333, _, none⟩) NB1342_1333.out _).trans (((cell_far (p := ⟨gb1333, _, none⟩) NB1342_1333.out _).trans (hHeld.2.1)))))))), ((cell_far (p := ⟨gb1333, _, none⟩) NB1349_1333.out _).trans (((cell_far (p := ⟨gb1333, _, none⟩) NB1349_1333.out _).trans (((cell_far (p := ⟨gb1333, _, none⟩) NB1349_1333.out _).trans (((cell_far (p := ⟨gb1333, _, none⟩) NB1349_1333.out _).trans (hHeld.2.2.1)))))))), ((cell_far (p := ⟨gb1333, _, none⟩) NB1349_1333.out _).trans (((cell_far (p := ⟨gb1333, _, none⟩) NB1349_1333.out _).trans (((cell_far (p := ⟨gb1333, _, none⟩) NB1349_1333.out _).trans (((cell_far (p := ⟨gb1333, _, none⟩) NB1349_1333.out _).trans (hHeld.2.2.2.1)))))))), ((cell_far (p := ⟨gb1333, _, none⟩) NB1349_1333.out _).trans (((cell_far (p := ⟨gb1333, _, none⟩) NB1349_1333.out _).trans (((cell_far (p := ⟨gb1333, _, none⟩) NB1349_1333.out _).trans (((cell_far (p := ⟨gb1333, _, none⟩) NB1349_1333.out _).trans (hHeld.2.2.2.2.1)))))))), ((cell_far (p := ⟨gb1333, _, none⟩) NB1349_1333.out _).trans (((cell_far (p := ⟨gb1333, _, none⟩) NB1349_1333.out _).trans (((cell_far (p := ⟨gb1333, _, none⟩) NB1349_1333.out _).trans (((cell_far (p := ⟨gb1333, _, none⟩) NB1349_1333.out _).trans (hHeld.2.2.2.2.2))))))))⟩ (fun hHeld => ?_)
   clear hK K
   refine done_ (by kernel_rfl) ?_
   try go_wp2
   refine bodyPost_ret (results_cc rfl _ _ gb1332 gb1333 73 26 #[.int .i64 t1338, .int .i64 t1339] #[.int .i64 t1343, .int .i64 t1362, .int .i64 t1345, .int .i64 t1346] (0, 0) (0, 0) _ _ rfl (by (with_reducible repeat (first | refine blk_drewN ?_ _ | refine blk_drew ?_ | refine blk_alloc ?_ _)); refine blk_far ?_ NB1332_1333.out _; (with_reducible repeat (first | refine blk_drewN ?_ _ | refine blk_drew ?_ | refine blk_alloc ?_ _)); refine blk_far ?_ NB1332_1333.out _; (with_reducible repeat (first | refine blk_drewN ?_ _ | refine blk_drew ?_ | refine blk_alloc ?_ _)); refine blk_far ?_ NB1332_1333.out _; (with_reducible repeat (first | refine blk_drewN ?_ _ | refine blk_drew ?_ | refine blk_alloc ?_ _)); refine blk_far ?_ NB1332_1333.out _; (with_reducible repeat (first | refine blk_drewN ?_ _ | refine blk_drew ?_ | refine blk_alloc ?_ _)); refine blk_put (cs := #[.int .i64 t1338, .int .i64 0]) ?_ 1 _ rfl; (with_reducible repeat (first | refine blk_drewN ?_ _ | refine blk_drew ?_ | refine blk_alloc ?_ _)); refine blk_put (cs := #[.int .i64 0, .int .i64 0]) ?_ 0 _ rfl; (with_reducible repeat (first | refine blk_drewN ?_ _ | refine blk_drew ?_ | refine blk_alloc ?_ _)); exact BK1332.out) Try.underlying73 rfl (by kernel_rfl) rfl (by (with_reducible repeat (first | refine blk_drewN ?_ _ | refine blk_drew ?_ | refine blk_alloc ?_ _)); refine blk_put (cs := #[.int .i64 t1343, .int .i64 t1362, .int .i64 t1345, .int .i64 0]) ?_ 3 _ rfl; (with_reducible repeat (first | refine blk_drewN ?_ _ | refine blk_drew ?_ | refine blk_alloc ?_ _)); refine blk_put (cs := #[.int .i64 t1343, .int .i64 t1362, .int .i64 0, .int .i64 0]) ?_ 2 _ rfl; (with_reducible repeat (first | refine blk_drewN ?_ _ | refine blk_drew ?_ | refine blk_alloc ?_ _)); refine blk_put (cs := #[.int .i64 t1343, .int .i64 0, .int .i64 0, .int .i64 0]) ?_ 1 _ rfl; (with_reducible repeat (first | refine blk_drewN ?_ _ | refine blk_drew ?_ | refine blk_alloc ?_ _)); refine blk_put (cs := #[.int .i64 0, .int .i64 0, .int .i64 0, .int .i64 0]) ?_ 0 _ rfl; (with_reducible repeat (first | refine blk_drewN ?_ _ | refine blk_drew ?_ | refine blk_alloc ?_ _)); refine blk_far ?_ NB1333_1332.out _; (with_reducible repeat (first | refine blk_drewN ?_ _ | refine blk_drew ?_ | refine blk_alloc ?_ _)); refine blk_far ?_ NB1333_1332.out _; (with_reducible repeat (first | refine blk_drewN ?_ _ | refine blk_drew ?_ | refine blk_alloc ?_ _)); exact BK1333.out) Try.underlying26 rfl (by kernel_rfl)) rfl ?_
   exact ⟨by first | rfl | (simp [errW_none, errW_some] <;> rfl) | (simp [*, errW_none, errW_some] <;> rfl), by repeat (first | (with_reducible first | exact HB.out | apply below_alloc | apply pw_below_drewN | apply below_drew1 | refine below_set ?_ (IsS157.ge HI1337.out) | refine below_set ?_ GE1332.out | refine below_set ?_ GE1333.out | refine below_set ?_ GE1342.out | refine below_set ?_ GE1349.out) | exact HB.out)⟩
  ·
   rw [if_neg c38] at H
   have c38b0 : (t1350 == 1) = false := beq_eq_false_iff_ne.mpr c38
   have c38b1 : (t1350 != 1) = true := bne_iff_ne.mpr c38
   simp only [Option.some.injEq, Prod.mk.injEq] at H
   obtain ⟨rfl, rfl, rfl, rfl, rfl, rfl⟩ := H
   go_enter Try.func49, Try.ntmps49
   try go_wp2_with (first | ((with_reducible refine gate_dst (N := 2) rfl ?_); refine box_event ?hg (N := 2) ?hd (cs := #[.int .i64 0, .int .i64 0]) (t := 73) ?hr ?_; (case hd => rfl); (case hg => rfl); (case hr => first | (go_simp; done) | (go_simp; rfl)); intro gb1332 hg w70 hbox hb; have n0_ := Aside0.mk (below_step (by repeat (first | (with_reducible first | exact HB.out | apply below_alloc | apply pw_below_drewN | apply below_drew1) | exact HB.out)) hb); have n1_ := Aside0.mk (hbox); have n2_ := Aside0.mk ((by rw [hg]; exact (below_size (by repeat (first | (with_reducible first | exact HB.out | apply below_alloc | apply pw_below_drewN | apply below_drew1) | exact HB.out))) : w.heap.size ≤ gb1332)); have n3_ := Aside0.mk ((by rw [hg]; exact (below_size (by repeat (first | (with_reducible first | exact HB.out | apply below_alloc | apply pw_below_drewN | apply below_drew1) | exact HB.out))) : w.heap.size ≤ gb1332)); clear HB; have HB := n0_; have BK1332 := n1_; have GW1332 := n2_; have GE1332 := n3_; clear n0_ n1_ n2_ n3_; clear hb hbox hg) | ((with_reducible refine gate_dst (N := 3) rfl ?_); refine box_event ?hg (N := 3) ?hd (cs := #[.int .i64 0, .int .i64 0, .int .i64 0, .int .i64 0]) (t := 26) ?hr ?_; (case hd => rfl); (case hg => rfl); (case hr => first | (go_simp; done) | (go_simp; rfl)); intro gb1333 hg w71 hbox hb; have n0_ := Aside0.mk (blk_below (g := gb1332) (o := .cells #[.int .i64 0, .int .i64 0] 73 (0, 0)) (by (with_reducible repeat (first | refine blk_drewN ?_ _ | refine blk_drew ?_ | refine blk_alloc ?_ _)); exact BK1332.out) hb); have n1_ := Aside0.mk (below_step (by repeat (first | (with_reducible first | exact HB.out | apply below_alloc | apply pw_below_drewN | apply below_drew1 | refine below_set ?_ GE1332.out) | exact HB.out)) hb); have n2_ := Aside0.mk (hbox); have n3_ := Aside0.mk ((by rw [hg]; exact (below_size (by repeat (first | (with_reducible first | exact HB.out | apply below_alloc | apply pw_below_drewN | apply below_drew1 | refine below_set ?_ GE1332.out) | exact HB.out))) : w.heap.size ≤ gb1333)); have n4_ := Aside0.mk ((by rw [hg]; exact (below_size (by repeat (first | (with_reducible first | exact HB.out | apply below_alloc | apply pw_below_drewN | apply below_drew1 | refine below_set ?_ GE1332.out) | exact HB.out))) : w.heap.size ≤ gb1333)); have n5_ := Aside0.mk ((by rw [hg]; exact Nat.ne_of_lt (blk_lt (g := gb1332) (o := .cells #[.int .i64 0, .int .i64 0] 73 (0, 0)) (by (with_reducible repeat (first | refine blk_drewN ?_ _ | refine blk_drew ?_ | refine blk_alloc ?_ _)); exact BK1332.out)) : gb1332 ≠ gb1333)); have n6_ := Aside0.mk ((by rw [hg]; exact Nat.ne_of_gt (blk_lt (g := gb1332) (o := .cells #[.int .i64 0, .int .i64 0] 73 (0, 0)) (by (with_reducible repeat (first | refine blk_drewN ?_ _ | refine blk_drew ?_ | refine blk_alloc ?_ _)); exact BK1332.out)) : gb1333 ≠ gb1332)); clear BK1332; clear HB; have BK1332 := n0_; have HB := n1_; have BK1333 := n2_; have GW1333 := n3_; have GE1333 := n4_; have NB1332_1333 := n5_; have NB1333_1332 := n6_; clear n0_ n1_ n2_ n3_ n4_ n5_ n6_; clear hb hbox hg) | ((with_reducible refine gate_callee (f := 74) rfl ?_); refine goesL_ (some 8) rfl rfl Try.func74 (by kernel_rfl) rfl #[.slice A0 l0.length c0] rfl (by (try simp only [List.map_toArray, List.map_cons, List.map_nil]); first | done | rfl | (simp only [List.length_drop, List.length_take]; rfl)) ?_; (with_reducible refine (spec_l1New.calls k _ _ l0 t1334 t1335 t1336 w _ ?side1 ?side2 ?side3 A2.out).mono ?_); (case side1 => repeat (first | (with_reducible first | exact HB.out | apply below_alloc | apply pw_below_drewN | apply below_drew1 | refine below_set ?_ GE1332.out | refine below_set ?_ GE1333.out) | exact HB.out)); (case side2 => exact HR0.out); (case side3 => exact HC0.out); rintro e w72 ⟨g1337, rfl, hi, hb, hb2⟩; refine ⟨_, rfl, ?_⟩; have n0_ := Aside0.mk (blk_below (g := gb1332) (o := .cells #[.int .i64 0, .int .i64 0] 73 (0, 0)) (by (with_reducible repeat (first | refine blk_drewN ?_ _ | refine blk_drew ?_ | refine blk_alloc ?_ _)); exact BK1332.out) hb2); have n1_ := Aside0.mk (blk_below (g := gb1333) (o := .cells #[.int .i64 0, .int .i64 0, .int .i64 0, .int .i64 0] 26 (0, 0)) (by (with_reducible repeat (first | refine blk_drewN ?_ _ | refine blk_drew ?_ | refine blk_alloc ?_ _)); exact BK1333.out) hb2); have n2_ := Aside0.mk (hb); have n3_ := Aside0.mk (hi); have n4_ := Aside0.mk (IsS157.ne_blk hi (blk_below (g := gb1332) (o := .cells #[.int .i64 0, .int .i64 0] 73 (0, 0)) (by (with_reducible repeat (first | refine blk_drewN ?_ _ | refine blk_drew ?_ | refine blk_alloc ?_ _)); exact BK1332.out) hb2) (by decide)); have n5_ := Aside0.mk (Ne.symm (IsS157.ne_blk hi (blk_below (g := gb1332) (o := .cells #[.int .i64 0, .int .i64 0] 73 (0, 0)) (by (with_reducible repeat (first | refine blk_drewN ?_ _ | refine blk_drew ?_ | refine blk_alloc ?_ _)); exact BK1332.out) hb2) (by decide))); have n6_ := Aside0.mk (IsS157.ne_blk hi (blk_below (g := gb1333) (o := .cells #[.int .i64 0, .int .i64 0, .int .i64 0, .int .i64 0] 26 (0, 0)) (by (with_reducible repeat (first | refine blk_drewN ?_ _ | refine blk_drew ?_ | refine blk_alloc ?_ _)); exact BK1333.out) hb2) (by decide)); have n7_ := Aside0.mk (Ne.symm (IsS157.ne_blk hi (blk_below (g := gb1333) (o := .cells #[.int .i64 0, .int .i64 0, .int .i64 0, .int .i64 0] 26 (0, 0)) (by (with_reducible repeat (first | refine blk_drewN ?_ _ | refine blk_drew ?_ | refine blk_alloc ?_ _)); exact BK1333.out) hb2) (by decide))); clear BK1332; clear BK1333; clear HB; have BK1332 := n0_; have BK1333 := n1_; have HB := n2_; have HI1337 := n3_; have NB1337_1332 := n4_; have NB1332_1337 := n5_; have NB1337_1333 := n6_; have NB1333_1337 := n7_; clear n0_ n1_ n2_ n3_ n4_ n5_ n6_ n7_; (try clear hb); (try clear hb2); (try clear hk); (try clear hi)) | ((with_reducible refine gate_callee (f := 113) rfl ?_); refine goesL_ (some 10) rfl rfl Try.func113 (by kernel_rfl) rfl #[.pointer (some ⟨g1337, 0, none⟩)] rfl (by (try simp only [List.map_toArray, List.map_cons, List.map_nil]); first | done | rfl | (simp only [List.length_drop, List.length_take]; rfl)) ?_; (with_reducible refine (spec_l10Any.calls g1337 t1334 t1335 t1336 t1338 t1339 t1340 t1341 w _ ?side1 ?side2 A3.out).mono ?_); (case side1 => repeat (first | (with_reducible first | exact HI1337.out | apply IsS157.alloc | apply IsS157.drewN | apply IsS157.drew | apply IsS157.set_1 | apply IsS157.set_2 | refine IsS157.far ?_ NB1337_1332.out _ | refine IsS157.far ?_ NB1337_1333.out _) | exact HI1337.out)); (case side2 => repeat (first | (with_reducible first | exact HB.out | apply below_alloc | apply pw_below_drewN | apply below_drew1 | refine below_set ?_ (IsS157.ge HI1337.out) | refine below_set ?_ GE1332.out | refine below_set ?_ GE1333.out) | exact HB.out)); rintro e w73 ⟨rfl, hi, hb, hk⟩; refine ⟨_, rfl, ?_⟩; have n0_ := Aside0.mk (KeepBut.blk hk (g' := gb1332) (o := .cells #[.int .i64 0, .int .i64 0] 73 (0, 0)) (by (with_reducible repeat (first | refine blk_drewN ?_ _ | refine blk_drew ?_ | refine blk_alloc ?_ _)); exact BK1332.out) NB1332_1337.out (by simp)); have n1_ := Aside0.mk (KeepBut.blk hk (g' := gb1333) (o := .cells #[.int .i64 0, .int .i64 0, .int .i64 0, .int .i64 0] 26 (0, 0)) (by (with_reducible repeat (first | refine blk_drewN ?_ _ | refine blk_drew ?_ | refine blk_alloc ?_ _)); exact BK1333.out) NB1333_1337.out (by simp)); have n2_ := Aside0.mk (hb); have n3_ := Aside0.mk (hi); clear BK1332; clear BK1333; clear HB; clear HI1337; have BK1332 := n0_; have BK1333 := n1_; have HB := n2_; have HI1337 := n3_; clear n0_ n1_ n2_ n3_; (try clear hb); (try clear hb2); (try clear hk); (try clear hi)) | ((with_reducible refine gate_dst (N := 5) rfl ?_); refine box_event ?hg (N := 5) ?hd (cs := #[.int .i64 0, .int .i64 0]) (t := 73) ?hr ?_; (case hd => rfl); (case hg => rfl); (case hr => first | (go_simp; done) | (go_simp; rfl)); intro gb1342 hg w74 hbox hb; have n0_ := Aside0.mk (blk_below (g := gb1332) (o := .cells #[.int .i64 0, .int .i64 0] 73 (0, 0)) (by (with_reducible repeat (first | refine blk_drewN ?_ _ | refine blk_drew ?_ | refine blk_alloc ?_ _)); exact BK1332.out) hb); have n1_ := Aside0.mk (blk_below (g := gb1333) (o := .cells #[.int .i64 0, .int .i64 0, .int .i64 0, .int .i64 0] 26 (0, 0)) (by (with_reducible repeat (first | refine blk_drewN ?_ _ | refine blk_drew ?_ | refine blk_alloc ?_ _)); exact BK1333.out) hb); have n2_ := Aside0.mk (IsS157.below (by repeat (first | (with_reducible first | exact HI1337.out | apply IsS157.alloc | apply IsS157.drewN | apply IsS157.drew | apply IsS157.set_1 | apply IsS157.set_2 | refine IsS157.far ?_ NB1337_1332.out _ | refine IsS157.far ?_ NB1337_1333.out _) | exact HI1337.out)) hb); have n3_ := Aside0.mk (below_step (by repeat (first | (with_reducible first | exact HB.out | apply below_alloc | apply pw_below_drewN | apply below_drew1 | refine below_set ?_ (IsS157.ge HI1337.out) | refine below_set ?_ GE1332.out | refine below_set ?_ GE1333.out) | exact HB.out)) hb); have n4_ := Aside0.mk (hbox); have n5_ := Aside0.mk ((by rw [hg]; exact (below_size (by repeat (first | (with_reducible first | exact HB.out | apply below_alloc | apply pw_below_drewN | apply below_drew1 | refine below_set ?_ (IsS157.ge HI1337.out) | refine below_set ?_ GE1332.out | refine below_set ?_ GE1333.out) | exact HB.out))) : w.heap.size ≤ gb1342)); have n6_ := Aside0.mk ((by rw [hg]; exact (below_size (by repeat (first | (with_reducible first | exact HB.out | apply below_alloc | apply pw_below_drewN | apply below_drew1 | refine below_set ?_ (IsS157.ge HI1337.out) | refine below_set ?_ GE1332.out | refine below_set ?_ GE1333.out) | exact HB.out))) : w.heap.size ≤ gb1342)); have n7_ := Aside0.mk ((by rw [hg]; exact Nat.ne_of_lt (blk_lt (g := gb1332) (o := .cells #[.int .i64 0, .int .i64 0] 73 (0, 0)) (by (with_reducible repeat (first | refine blk_drewN ?_ _ | refine blk_drew ?_ | refine blk_alloc ?_ _)); exact BK1332.out)) : gb1332 ≠ gb1342)); have n8_ := Aside0.mk ((by rw [hg]; exact Nat.ne_of_gt (blk_lt (g := gb1332) (o := .cells #[.int .i64 0, .int .i64 0] 73 (0, 0)) (by (with_reducible repeat (first | refine blk_drewN ?_ _ | refine blk_drew ?_ | refine blk_alloc ?_ _)); exact BK1332.out)) : gb1342 ≠ gb1332)); have n9_ := Aside0.mk ((by rw [hg]; exact Nat.ne_of_lt (blk_lt (g := gb1333) (o := .cells #[.int .i64 0, .int .i64 0, .int .i64 0, .int .i64 0] 26 (0, 0)) (by (with_reducible repeat (first | refine blk_drewN ?_ _ | refine blk_drew ?_ | refine blk_alloc ?_ _)); exact BK1333.out)) : gb1333 ≠ gb1342)); have n10_ := Aside0.mk ((by rw [hg]; exact Nat.ne_of_gt (blk_lt (g := gb1333) (o := .cells #[.int .i64 0, .int .i64 0, .int .i64 0, .int .i64 0] 26 (0, 0)) (by (with_reducible repeat (first | refine blk_drewN ?_ _ | refine blk_drew ?_ | refine blk_alloc ?_ _)); exact BK1333.out)) : gb1342 ≠ gb1333)); have n11_ := Aside0.mk ((by rw [hg]; exact Nat.ne_of_lt (IsS157.lt (show IsS157 w _ g1337 t1334 t1340 t1341 from by repeat (first | (with_reducible first | exact HI1337.out | apply IsS157.alloc | apply IsS157.drewN | apply IsS157.drew | apply IsS157.set_1 | apply IsS157.set_2 | refine IsS157.far ?_ NB1337_1332.out _ | refine IsS157.far ?_ NB1337_1333.out _) | exact HI1337.out))) : g1337 ≠ gb1342)); have n12_ := Aside0.mk ((by rw [hg]; exact Nat.ne_of_gt (IsS157.lt (show IsS157 w _ g1337 t1334 t1340 t1341 from by repeat (first | (with_reducible first | exact HI1337.out | apply IsS157.alloc | apply IsS157.drewN | apply IsS157.drew | apply IsS157.set_1 | apply IsS157.set_2 | refine IsS157.far ?_ NB1337_1332.out _ | refine IsS157.far ?_ NB1337_1333.out _) | exact HI1337.out))) : gb1342 ≠ g1337)); clear BK1332; clear BK1333; clear HI1337; clear HB; have BK1332 := n0_; have BK1333 := n1_; have HI1337 := n2_; have HB := n3_; have BK1342 := n4_; have GW1342 := n5_; have GE1342 := n6_; have NB1332_1342 := n7_; have NB1342_1332 := n8_; have NB1333_1342 := n9_; have NB1342_1333 := n10_; have NB1337_1342 := n11_; have NB1342_1337 := n12_; clear n0_ n1_ n2_ n3_ n4_ n5_ n6_ n7_ n8_ n9_ n10_ n11_ n12_; clear hb hbox hg; have hnb75 := NB1342_1332.out; have hnc75 := NB1332_1342.out; have hnb76 := NB1342_1333.out; have hnc76 := NB1333_1342.out; have hnb77 := NB1342_1337.out; have hnc77 := NB1337_1342.out; have hcz78_0 : w74.cell? ⟨gb1342, 0, none⟩ = some (.int .i64 0) := (blk_cell BK1342.out 0).trans rfl; have hcz78_1 : w74.cell? ⟨gb1342, 1, none⟩ = some (.int .i64 0) := (blk_cell BK1342.out 1).trans rfl; have hfz78_0 := blk_frozen BK1342.out 0; have hfz78_1 := blk_frozen BK1342.out 1) | ((with_reducible refine gate_callee (f := 76) rfl ?_); refine goesL_ (some 12) rfl rfl Try.func76 (by kernel_rfl) rfl #[.pointer (some ⟨g1337, 0, none⟩)] rfl (by (try simp only [List.map_toArray, List.map_cons, List.map_nil]); first | done | rfl | (simp only [List.length_drop, List.length_take]; rfl)) ?_; (with_reducible refine (spec_l8Event.calls g1337 t1334 t1340 t1341 t1343 t1344 t1345 t1346 t1347 t1348 w _ ?side1 ?side2 A4.out).mono ?_); (case side1 => repeat (first | (with_reducible first | exact HI1337.out | apply IsS157.alloc | apply IsS157.drewN | apply IsS157.drew | apply IsS157.set_1 | apply IsS157.set_2 | refine IsS157.far ?_ NB1337_1332.out _ | refine IsS157.far ?_ NB1337_1333.out _ | refine IsS157.far ?_ NB1337_1342.out _) | exact HI1337.out)); (case side2 => repeat (first | (with_reducible first | exact HB.out | apply below_alloc | apply pw_below_drewN | apply below_drew1 | refine below_set ?_ (IsS157.ge HI1337.out) | refine below_set ?_ GE1332.out | refine below_set ?_ GE1333.out | refine below_set ?_ GE1342.out) | exact HB.out)); rintro e w79 ⟨rfl, hi, hb, hk⟩; refine ⟨_, rfl, ?_⟩; have n0_ := Aside0.mk (KeepBut.blk hk (g' := gb1332) (o := .cells #[.int .i64 0, .int .i64 0] 73 (0, 0)) (by (with_reducible repeat (first | refine blk_drewN ?_ _ | refine blk_drew ?_ | refine blk_alloc ?_ _)); refine blk_far ?_ NB1332_1342.out _; (with_reducible repeat (first | refine blk_drewN ?_ _ | refine blk_drew ?_ | refine blk_alloc ?_ _)); refine blk_far ?_ NB1332_1342.out _; (with_reducible repeat (first | refine blk_drewN ?_ _ | refine blk_drew ?_ | refine blk_alloc ?_ _)); exact BK1332.out) NB1332_1337.out (by simp)); have n1_ := Aside0.mk (KeepBut.blk hk (g' := gb1333) (o := .cells #[.int .i64 0, .int .i64 0, .int .i64 0, .int .i64 0] 26 (0, 0)) (by (with_reducible repeat (first | refine blk_drewN ?_ _ | refine blk_drew ?_ | refine blk_alloc ?_ _)); refine blk_far ?_ NB1333_1342.out _; (with_reducible repeat (first | refine blk_drewN ?_ _ | refine blk_drew ?_ | refine blk_alloc ?_ _)); refine blk_far ?_ NB1333_1342.out _; (with_reducible repeat (first | refine blk_drewN ?_ _ | refine blk_drew ?_ | refine blk_alloc ?_ _)); exact BK1333.out) NB1333_1337.out (by simp)); have n2_ := Aside0.mk (KeepBut.blk hk (g' := gb1342) (o := .cells #[.int .i64 t1338, .int .i64 t1339] 73 (0, 0)) (by (with_reducible repeat (first | refine blk_drewN ?_ _ | refine blk_drew ?_ | refine blk_alloc ?_ _)); refine blk_put (cs := #[.int .i64 t1338, .int .i64 0]) ?_ 1 _ rfl; (with_reducible repeat (first | refine blk_drewN ?_ _ | refine blk_drew ?_ | refine blk_alloc ?_ _)); refine blk_put (cs := #[.int .i64 0, .int .i64 0]) ?_ 0 _ rfl; (with_reducible repeat (first | refine blk_drewN ?_ _ | refine blk_drew ?_ | refine blk_alloc ?_ _)); exact BK1342.out) NB1342_1337.out (by simp)); have n3_ := Aside0.mk (hb); have n4_ := Aside0.mk (hi); clear BK1332; clear BK1333; clear BK1342; clear HB; clear HI1337; have BK1332 := n0_; have BK1333 := n1_; have BK1342 := n2_; have HB := n3_; have HI1337 := n4_; clear n0_ n1_ n2_ n3_ n4_; (try clear hb); (try clear hb2); (try clear hk); (try clear hi)) | ((with_reducible refine gate_dst (N := 6) rfl ?_); refine box_event ?hg (N := 6) ?hd (cs := #[.int .i64 0, .int .i64 0, .int .i64 0, .int .i64 0]) (t := 26) ?hr ?_; (case hd => rfl); (case hg => rfl); (case hr => first | (go_simp; done) | (go_simp; rfl)); intro gb1349 hg w80 hbox hb; have n0_ := Aside0.mk (blk_below (g := gb1332) (o := .cells #[.int .i64 0, .int .i64 0] 73 (0, 0)) (by (with_reducible repeat (first | refine blk_drewN ?_ _ | refine blk_drew ?_ | refine blk_alloc ?_ _)); exact BK1332.out) hb); have n1_ := Aside0.mk (blk_below (g := gb1333) (o := .cells #[.int .i64 0, .int .i64 0, .int .i64 0, .int .i64 0] 26 (0, 0)) (by (with_reducible repeat (first | refine blk_drewN ?_ _ | refine blk_drew ?_ | refine blk_alloc ?_ _)); exact BK1333.out) hb); have n2_ := Aside0.mk (IsS157.below (by repeat (first | (with_reducible first | exact HI1337.out | apply IsS157.alloc | apply IsS157.drewN | apply IsS157.drew | apply IsS157.set_1 | apply IsS157.set_2 | refine IsS157.far ?_ NB1337_1332.out _ | refine IsS157.far ?_ NB1337_1333.out _ | refine IsS157.far ?_ NB1337_1342.out _) | exact HI1337.out)) hb); have n3_ := Aside0.mk (blk_below (g := gb1342) (o := .cells #[.int .i64 t1338, .int .i64 t1339] 73 (0, 0)) (by (with_reducible repeat (first | refine blk_drewN ?_ _ | refine blk_drew ?_ | refine blk_alloc ?_ _)); exact BK1342.out) hb); have n4_ := Aside0.mk (below_step (by repeat (first | (with_reducible first | exact HB.out | apply below_alloc | apply pw_below_drewN | apply below_drew1 | refine below_set ?_ (IsS157.ge HI1337.out) | refine below_set ?_ GE1332.out | refine below_set ?_ GE1333.out | refine below_set ?_ GE1342.out) | exact HB.out)) hb); have n5_ := Aside0.mk (hbox); have n6_ := Aside0.mk ((by rw [hg]; exact (below_size (by repeat (first | (with_reducible first | exact HB.out | apply below_alloc | apply pw_below_drewN | apply below_drew1 | refine below_set ?_ (IsS157.ge HI1337.out) | refine below_set ?_ GE1332.out | refine below_set ?_ GE1333.out | refine below_set ?_ GE1342.out) | exact HB.out))) : w.heap.size ≤ gb1349)); have n7_ := Aside0.mk ((by rw [hg]; exact (below_size (by repeat (first | (with_reducible first | exact HB.out | apply below_alloc | apply pw_below_drewN | apply below_drew1 | refine below_set ?_ (IsS157.ge HI1337.out) | refine below_set ?_ GE1332.out | refine below_set ?_ GE1333.out | refine below_set ?_ GE1342.out) | exact HB.out))) : w.heap.size ≤ gb1349)); have n8_ := Aside0.mk ((by rw [hg]; exact Nat.ne_of_lt (blk_lt (g := gb1332) (o := .cells #[.int .i64 0, .int .i64 0] 73 (0, 0)) (by (with_reducible repeat (first | refine blk_drewN ?_ _ | refine blk_drew ?_ | refine blk_alloc ?_ _)); exact BK1332.out)) : gb1332 ≠ gb1349)); have n9_ := Aside0.mk ((by rw [hg]; exact Nat.ne_of_gt (blk_lt (g := gb1332) (o := .cells #[.int .i64 0, .int .i64 0] 73 (0, 0)) (by (with_reducible repeat (first | refine blk_drewN ?_ _ | refine blk_drew ?_ | refine blk_alloc ?_ _)); exact BK1332.out)) : gb1349 ≠ gb1332)); have n10_ := Aside0.mk ((by rw [hg]; exact Nat.ne_of_lt (blk_lt (g := gb1333) (o := .cells #[.int .i64 0, .int .i64 0, .int .i64 0, .int .i64 0] 26 (0, 0)) (by (with_reducible repeat (first | refine blk_drewN ?_ _ | refine blk_drew ?_ | refine blk_alloc ?_ _)); exact BK1333.out)) : gb1333 ≠ gb1349)); have n11_ := Aside0.mk ((by rw [hg]; exact Nat.ne_of_gt (blk_lt (g := gb1333) (o := .cells #[.int .i64 0, .int .i64 0, .int .i64 0, .int .i64 0] 26 (0, 0)) (by (with_reducible repeat (first | refine blk_drewN ?_ _ | refine blk_drew ?_ | refine blk_alloc ?_ _)); exact BK1333.out)) : gb1349 ≠ gb1333)); have n12_ := Aside0.mk ((by rw [hg]; exact Nat.ne_of_lt (blk_lt (g := gb1342) (o := .cells #[.int .i64 t1338, .int .i64 t1339] 73 (0, 0)) (by (with_reducible repeat (first | refine blk_drewN ?_ _ | refine blk_drew ?_ | refine blk_alloc ?_ _)); exact BK1342.out)) : gb1342 ≠ gb1349)); have n13_ := Aside0.mk ((by rw [hg]; exact Nat.ne_of_gt (blk_lt (g := gb1342) (o := .cells #[.int .i64 t1338, .int .i64 t1339] 73 (0, 0)) (by (with_reducible repeat (first | refine blk_drewN ?_ _ | refine blk_drew ?_ | refine blk_alloc ?_ _)); exact BK1342.out)) : gb1349 ≠ gb1342)); have n14_ := Aside0.mk ((by rw [hg]; exact Nat.ne_of_lt (IsS157.lt (show IsS157 w _ g1337 t1334 t1347 t1348 from by repeat (first | (with_reducible first | exact HI1337.out | apply IsS157.alloc | apply IsS157.drewN | apply IsS157.drew | apply IsS157.set_1 | apply IsS157.set_2 | refine IsS157.far ?_ NB1337_1332.out _ | refine IsS157.far ?_ NB1337_1333.out _ | refine IsS157.far ?_ NB1337_1342.out _) | exact HI1337.out))) : g1337 ≠ gb1349)); have n15_ := Aside0.mk ((by rw [hg]; exact Nat.ne_of_gt (IsS157.lt (show IsS157 w _ g1337 t1334 t1347 t1348 from by repeat (first | (with_reducible first | exact HI1337.out | apply IsS157.alloc | apply IsS157.drewN | apply IsS157.drew | apply IsS157.set_1 | apply IsS157.set_2 | refine IsS157.far ?_ NB1337_1332.out _ | refine IsS157.far ?_ NB1337_1333.out _ | refine IsS157.far ?_ NB1337_1342.out _) | exact HI1337.out))) : gb1349 ≠ g1337)); clear BK1332; clear BK1333; clear HI1337; clear BK1342; clear HB; have BK1332 := n0_; have BK1333 := n1_; have HI1337 := n2_; have BK1342 := n3_; have HB := n4_; have BK1349 := n5_; have GW1349 := n6_; have GE1349 := n7_; have NB1332_1349 := n8_; have NB1349_1332 := n9_; have NB1333_1349 := n10_; have NB1349_1333 := n11_; have NB1342_1349 := n12_; have NB1349_1342 := n13_; have NB1337_1349 := n14_; have NB1349_1337 := n15_; clear n0_ n1_ n2_ n3_ n4_ n5_ n6_ n7_ n8_ n9_ n10_ n11_ n12_ n13_ n14_ n15_; clear hb hbox hg; have hnb81 := NB1349_1332.out; have hnc81 := NB1332_1349.out; have hnb82 := NB1349_1333.out; have hnc82 := NB1333_1349.out; have hnb83 := NB1349_1342.out; have hnc83 := NB1342_1349.out; have hnb84 := NB1349_1337.out; have hnc84 := NB1337_1349.out; have hcz85_0 : w80.cell? ⟨gb1349, 0, none⟩ = some (.int .i64 0) := (blk_cell BK1349.out 0).trans rfl; have hcz85_1 : w80.cell? ⟨gb1349, 1, none⟩ = some (.int .i64 0) := (blk_cell BK1349.out 1).trans rfl; have hcz85_2 : w80.cell? ⟨gb1349, 2, none⟩ = some (.int .i64 0) := (blk_cell BK1349.out 2).trans rfl; have hcz85_3 : w80.cell? ⟨gb1349, 3, none⟩ = some (.int .i64 0) := (blk_cell BK1349.out 3).trans rfl; have hfz85_0 := blk_frozen BK1349.out 0; have hfz85_1 := blk_frozen BK1349.out 1; have hfz85_2 := blk_frozen BK1349.out 2; have hfz85_3 := blk_frozen BK1349.out 3) | ((with_reducible refine gate_callee (f := 91) rfl ?_); refine goesL_ (some 14) rfl rfl Try.func91 (by kernel_rfl) rfl #[.pointer (some ⟨g1337, 0, none⟩), .int .i64 7] rfl (by (try simp only [List.map_toArray, List.map_cons, List.map_nil]); first | done | rfl | (simp only [List.length_drop, List.length_take]; rfl)) ?_; (with_reducible refine (spec_l1Below.calls g1337 t1334 t1347 t1348 7 t1350 t1351 t1352 w _ ?side1 ?side2 A5.out).mono ?_); (case side1 => repeat (first | (with_reducible first | exact HI1337.out | apply IsS157.alloc | apply IsS157.drewN | apply IsS157.drew | apply IsS157.set_1 | apply IsS157.set_2 | refine IsS157.far ?_ NB1337_1332.out _ | refine IsS157.far ?_ NB1337_1333.out _ | refine IsS157.far ?_ NB1337_1342.out _ | refine IsS157.far ?_ NB1337_1349.out _) | exact HI1337.out)); (case side2 => repeat (first | (with_reducible first | exact HB.out | apply below_alloc | apply pw_below_drewN | apply below_drew1 | refine below_set ?_ (IsS157.ge HI1337.out) | refine below_set ?_ GE1332.out | refine below_set ?_ GE1333.out | refine below_set ?_ GE1342.out | refine below_set ?_ GE1349.out) | exact HB.out)); rintro e w86 ⟨rfl, hi, hb, hk⟩; refine ⟨_, rfl, ?_⟩; have n0_ := Aside0.mk (KeepBut.blk hk (g' := gb1332) (o := .cells #[.int .i64 0, .int .i64 0] 73 (0, 0)) (by (with_reducible repeat (first | refine blk_drewN ?_ _ | refine blk_drew ?_ | refine blk_alloc ?_ _)); refine blk_far ?_ NB1332_1349.out _; (with_reducible repeat (first | refine blk_drewN ?_ _ | refine blk_drew ?_ | refine blk_alloc ?_ _)); refine blk_far ?_ NB1332_1349.out _; (with_reducible repeat (first | refine blk_drewN ?_ _ | refine blk_drew ?_ | refine blk_alloc ?_ _)); refine blk_far ?_ NB1332_1349.out _; (with_reducible repeat (first | refine blk_drewN ?_ _ | refine blk_drew ?_ | refine blk_alloc ?_ _)); refine blk_far ?_ NB1332_1349.out _; (with_reducible repeat (first | refine blk_drewN ?_ _ | refine blk_drew ?_ | refine blk_alloc ?_ _)); exact BK1332.out) NB1332_1337.out (by simp)); have n1_ := Aside0.mk (KeepBut.blk hk (g' := gb1333) (o := .cells #[.int .i64 0, .int .i64 0, .int .i64 0, .int .i64 0] 26 (0, 0)) (by (with_reducible repeat (first | refine blk_drewN ?_ _ | refine blk_drew ?_ | refine blk_alloc ?_ _)); refine blk_far ?_ NB1333_1349.out _; (with_reducible repeat (first | refine blk_drewN ?_ _ | refine blk_drew ?_ | refine blk_alloc ?_ _)); refine blk_far ?_ NB1333_1349.out _; (with_reducible repeat (first | refine blk_drewN ?_ _ | refine blk_drew ?_ | refine blk_alloc ?_ _)); refine blk_far ?_ NB1333_1349.out _; (with_reducible repeat (first | refine blk_drewN ?_ _ | refine blk_drew ?_ | refine blk_alloc ?_ _)); refine blk_far ?_ NB1333_1349.out _; (with_reducible repeat (first | refine blk_drewN ?_ _ | refine blk_drew ?_ | refine blk_alloc ?_ _)); exact BK1333.out) NB1333_1337.out (by simp)); have n2_ := Aside0.mk (KeepBut.blk hk (g' := gb1342) (o := .cells #[.int .i64 t1338, .int .i64 t1339] 73 (0, 0)) (by (with_reducible repeat (first | refine blk_drewN ?_ _ | refine blk_drew ?_ | refine blk_alloc ?_ _)); refine blk_far ?_ NB1342_1349.out _; (with_reducible repeat (first | refine blk_drewN ?_ _ | refine blk_drew ?_ | refine blk_alloc ?_ _)); refine blk_far ?_ NB1342_1349.out _; (with_reducible repeat (first | refine blk_drewN ?_ _ | refine blk_drew ?_ | refine blk_alloc ?_ _)); refine blk_far ?_ NB1342_1349.out _; (with_reducible repeat (first | refine blk_drewN ?_ _ | refine blk_drew ?_ | refine blk_alloc ?_ _)); refine blk_far ?_ NB1342_1349.out _; (with_reducible repeat (first | refine blk_drewN ?_ _ | refine blk_drew ?_ | refine blk_alloc ?_ _)); exact BK1342.out) NB1342_1337.out (by simp)); have n3_ := Aside0.mk (KeepBut.blk hk (g' := gb1349) (o := .cells #[.int .i64 t1343, .int .i64 t1344, .int .i64 t1345, .int .i64 t1346] 26 (0, 0)) (by (with_reducible repeat (first | refine blk_drewN ?_ _ | refine blk_drew ?_ | refine blk_alloc ?_ _)); refine blk_put (cs := #[.int .i64 t1343, .int .i64 t1344, .int .i64 t1345, .int .i64 0]) ?_ 3 _ rfl; (with_reducible repeat (first | refine blk_drewN ?_ _ | refine blk_drew ?_ | refine blk_alloc ?_ _)); refine blk_put (cs := #[.int .i64 t1343, .int .i64 t1344, .int .i64 0, .int .i64 0]) ?_ 2 _ rfl; (with_reducible repeat (first | refine blk_drewN ?_ _ | refine blk_drew ?_ | refine blk_alloc ?_ _)); refine blk_put (cs := #[.int .i64 t1343, .int .i64 0, .int .i64 0, .int .i64 0]) ?_ 1 _ rfl; (with_reducible repeat (first | refine blk_drewN ?_ _ | refine blk_drew ?_ | refine blk_alloc ?_ _)); refine blk_put (cs := #[.int .i64 0, .int .i64 0, .int .i64 0, .int .i64 0]) ?_ 0 _ rfl; (with_reducible repeat (first | refine blk_drewN ?_ _ | refine blk_drew ?_ | refine blk_alloc ?_ _)); exact BK1349.out) NB1349_1337.out (by simp)); have n4_ := Aside0.mk (hb); have n5_ := Aside0.mk (hi); clear BK1332; clear BK1333; clear BK1342; clear BK1349; clear HB; clear HI1337; have BK1332 := n0_; have BK1333 := n1_; have BK1342 := n2_; have BK1349 := n3_; have HB := n4_; have HI1337 := n5_; clear n0_ n1_ n2_ n3_ n4_ n5_; (try clear hb); (try clear hb2); (try clear hk); (try clear hi)))
   have n0_ := Aside0.mk (blk_drew BK1332.out)
   have n1_ := Aside0.mk (blk_drew BK1333.out)
   have n2_ := Aside0.mk (blk_drew BK1342.out)
   have n3_ := Aside0.mk (blk_drew BK1349.out)
   have n4_ := Aside0.mk (IsS157.drew HI1337.out)
   have n5_ := Aside0.mk (below_drew1 HB.out)
   clear BK1332
   clear BK1333
   clear BK1342
   clear BK1349
   clear HI1337
   clear HB
   have BK1332 := n0_
   have BK1333 := n1_
   have BK1342 := n2_
   have BK1349 := n3_
   have HI1337 := n4_
   have HB := n5_
   clear n0_ n1_ n2_ n3_ n4_ n5_
   refine start_ (n := 4) (S := fun w' => w'.cell? ⟨gb1342, 0, none⟩ = some (.int .i64 t1338) ∧ w'.cell? ⟨gb1342, 1, none⟩ = some (.int .i64 t1339) ∧ w'.cell? ⟨gb1349, 0, none⟩ = some (.int .i64 t1343) ∧ w'.cell? ⟨gb1349, 1, none⟩ = some (.int .i64 t1344) ∧ w'.cell? ⟨gb1349, 2, none⟩ = some (.int .i64 t1345) ∧ w'.cell? ⟨gb1349, 3, none⟩ = some (.int .i64 t1346)) (ds := []) #[false, false, false, false] (by kernel_rfl) rfl rfl ⟨(blk_cell BK1342.out 0).trans rfl, (blk_cell BK1342.out 1).trans rfl, (blk_cell BK1349.out 0).trans rfl, (blk_cell BK1349.out 1).trans rfl, (blk_cell BK1349.out 2).trans rfl, (blk_cell BK1349.out 3).trans rfl⟩ (fun hHeld => ?_)
   generalize w86.drew = w87 at BK1332 BK1333 BK1342 BK1349 HI1337 HB hHeld ⊢
   refine take_ (i := 0) (N := some 27) (v := ?_) (a' := ?_) #[true, false, false, false] rfl rfl (by kernel_rfl) (fun _ _ _ h => h) (Or.inl ⟨by rfl, ?_⟩) hHeld ?_ ?_
   rotate_left
   ·
    rintro w' ⟨s0, s1, s2, s3, s4, s5⟩
    go_simp
    with_reducible rfl
   rotate_left
   ·
    simp only [Act.put, List.setIfInBounds_toArray, List.set_cons_zero, List.set_cons_succ, i64_w, i32_w]
    rfl
   refine take_ (i := 1) (N := some 28) (v := ?_) (a' := ?_) #[true, true, false, false] rfl rfl (by kernel_rfl) (fun _ _ _ h => h) (Or.inl ⟨by rfl, ?_⟩) hHeld ?_ ?_
   rotate_left
   ·
    rintro w' ⟨s0, s1, s2, s3, s4, s5⟩
    go_simp
    with_reducible rfl
   rotate_left
   ·
    simp only [Act.put, List.setIfInBounds_toArray, List.set_cons_zero, List.set_cons_succ, i64_w, i32_w]
    rfl
   refine one_ (i := 2) (N := none) #[true, true, true, false] rfl rfl (by kernel_rfl) (by decide) (fun K hK => ?_)
   have hs88 : w87.cell? ⟨gb1332, 0, none⟩ = some (.int .i64 0) := (blk_cell BK1332.out 0).trans rfl
   have hfs88 := blk_frozen BK1332.out 0
   have hns88_1 := NB1333_1332.out
   have hns88_2 := NB1342_1332.out
   have hns88_3 := NB1349_1332.out
   have hms88_1 := NB1332_1333.out
   have hms88_2 := NB1332_1342.out
   have hms88_3 := NB1332_1349.out
   have hs89 : w87.cell? ⟨gb1332, 1, none⟩ = some (.int .i64 0) := (blk_cell BK1332.out 1).trans rfl
   have hfs89 := blk_frozen BK1332.out 1
   have hns89_1 := NB1333_1332.out
   have hns89_2 := NB1342_1332.out
   have hns89_3 := NB1349_1332.out
   have hms89_1 := NB1332_1333.out
   have hms89_2 := NB1332_1342.out
   have hms89_3 := NB1332_1349.out
   refine skip_ (w1 := ?_) (by rfl) rfl ?_ ?_
   rotate_left
   ·
    go_simp
    rfl
   refine hK.out _ _ ⟨((cell_far (p := ⟨gb1332, _, none⟩) NB1342_1332.out _).trans (((cell_far (p := ⟨gb1332, _, none⟩) NB1342_1332.out _).trans (hHeld.1)))), ((cell_far (p := ⟨gb1332, _, none⟩) NB1342_1332.out _).trans (((cell_far (p := ⟨gb1332, _, none⟩) NB1342_1332.out _).trans (hHeld.2.1)))), ((cell_far (p := ⟨gb1332, _, none⟩) NB1349_1332.out _).trans (((cell_far (p := ⟨gb1332, _, none⟩) NB1349_1332.out _).trans (hHeld.2.2.1)))), ((cell_far (p := ⟨gb1332, _, none⟩) NB1349_1332.out _).trans (((cell_far (p := ⟨gb1332, _, none⟩) NB1349_1332.out _).trans (hHeld.2.2.2.1)))), ((cell_far (p := ⟨gb1332, _, none⟩) NB1349_1332.out _).trans (((cell_far (p := ⟨gb1332, _, none⟩) NB1349_1332.out _).trans (hHeld.2.2.2.2.1)))), ((cell_far (p := ⟨gb1332, _, none⟩) NB1349_1332.out _).trans (((cell_far (p := ⟨gb1332, _, none⟩) NB1349_1332.out _).trans (hHeld.2.2.2.2.2))))⟩ (fun hHeld => ?_)
   clear hK K
   refine one_ (i := 3) (N := none) #[true, true, true, true] rfl rfl (by kernel_rfl) (by decide) (fun K hK => ?_)
   have hs90 : w87.cell? ⟨gb1333, 0, none⟩ = some (.int .i64 0) := (blk_cell BK1333.out 0).trans rfl
   have hfs90 := blk_frozen BK1333.out 0
   have hns90_0 := NB1332_1333.out
   have hns90_2 := NB1342_1333.out
   have hns90_3 := NB1349_1333.out
   have hms90_0 := NB1333_1332.out
   have hms90_2 := NB1333_1342.out
   have hms90_3 := NB1333_1349.out
   have hs91 : w87.cell? ⟨gb1333, 1, none⟩ = some (.int .i64 0) := (blk_cell BK1333.out 1).trans rfl
   have hfs91 := blk_frozen BK1333.out 1
   have hns91_0 := NB1332_1333.out
   have hns91_2 := NB1342_1333.out
   have hns91_3 := NB1349_1333.out
   have hms91_0 := NB1333_1332.out
   have hms91_2 := NB1333_1342.out
   have hms91_3 := NB1333_1349.out
   have hs92 : w87.cell? ⟨gb1333, 2, none⟩ = some (.int .i64 0) := (blk_cell BK1333.out 2).trans rfl
   have hfs92 := blk_frozen BK1333.out 2
   have hns92_0 := NB1332_1333.out
   have hns92_2 := NB1342_1333.out
   have hns92_3 := NB1349_1333.out
   have hms92_0 := NB1333_1332.out
   have hms92_2 := NB1333_1342.out
   have hms92_3 := NB1333_1349.out
   have hs93 : w87.cell? ⟨gb1333, 3, none⟩ = some (.int .i64 0) := (blk_cell BK1333.out 3).trans rfl
   have hfs93 := blk_frozen BK1333.out 3
   have hns93_0 := NB1332_1333.out
   have hns93_2 := NB1342_1333.out
   have hns93_3 := NB1349_1333.out
   have hms93_0 := NB1333_1332.out
   have hms93_2 := NB1333_1342.out
   have hms93_3 := NB1333_1349.out
   refine skip_ (w1 := ?_) (by rfl) rfl ?_ ?_
   rotate_left
   ·
    go_simp
    rfl
   refine hK.out _ _ ⟨((cell_far (p := ⟨gb1333, _, none⟩) NB1342_1333.out _).trans (((cell_far (p := ⟨gb1333, _, none⟩) NB1342_1333.out _).trans (((cell_far (p := ⟨gb1333, _, none⟩) NB1342_1333.out _).trans (((cell_far (p := ⟨gb1333, _, none⟩) NB1342_1333.out _).trans (hHeld.1)))))))), ((cell_far (p := ⟨gb1333, _, none⟩) NB1342_1333.out _).trans (((cell_far (p := ⟨gb1333, _, none⟩) NB1342_1333.out _).trans (((cell_far (p := ⟨gb1333, _, none⟩) NB1342_1333.out _).trans (((cell_far (p := ⟨gb1333, _, none⟩) NB1342_1333.out _).trans (hHeld.2.1)))))))), ((cell_far (p := ⟨gb1333, _, none⟩) NB1349_1333.out _).trans (((cell_far (p := ⟨gb1333, _, none⟩) NB1349_1333.out _).trans (((cell_far (p := ⟨gb1333, _, none⟩) NB1349_1333.out _).trans (((cell_far (p := ⟨gb1333, _, none⟩) NB1349_1333.out _).trans (hHeld.2.2.1)))))))), ((cell_far (p := ⟨gb1333, _, none⟩) NB1349_1333.out _).trans (((cell_far (p := ⟨gb1333, _, none⟩) NB1349_1333.out _).trans (((cell_far (p := ⟨gb1333, _, none⟩) NB1349_1333.out _).trans (((cell_far (p := ⟨gb1333, _, none⟩) NB1349_1333.out _).trans (hHeld.2.2.2.1)))))))), ((cell_far (p := ⟨gb1333, _, none⟩) NB1349_1333.out _).trans (((cell_far (p := ⟨gb1333, _, none⟩) NB1349_1333.out _).trans (((cell_far (p := ⟨gb1333, _, none⟩) NB1349_1333.out _).trans (((cell_far (p := ⟨gb1333, _, none⟩) NB1349_1333.out _).trans (hHeld.2.2.2.2.1)))))))), ((cell_far (p := ⟨gb1333, _, none⟩) NB1349_1333.out _).trans (((cell_far (p := ⟨gb1333, _, none⟩) NB1349_1333.out _).trans (((cell_far (p := ⟨gb1333, _, none⟩) NB1349_1333.out _).trans (((cell_far (p := ⟨gb1333, _, none⟩) NB1349_1333.out _).trans (hHeld.2.2.2.2.2))))))))⟩ (fun hHeld => ?_)
   clear hK K
   refine done_ (by kernel_rfl) ?_
   try go_wp2
   refine bodyPost_ret (results_cc rfl _ _ gb1332 gb1333 73 26 #[.int .i64 t1338, .int .i64 t1339] #[.int .i64 t1343, .int .i64 t1344, .int .i64 t1345, .int .i64 t1346] (0, 0) (0, 0) _ _ rfl (by (with_reducible repeat (first | refine blk_drewN ?_ _ | refine blk_drew ?_ | refine blk_alloc ?_ _)); refine blk_far ?_ NB1332_1333.out _; (with_reducible repeat (first | refine blk_drewN ?_ _ | refine blk_drew ?_ | refine blk_alloc ?_ _)); refine blk_far ?_ NB1332_1333.out _; (with_reducible repeat (first | refine blk_drewN ?_ _ | refine blk_drew ?_ | refine blk_alloc ?_ _)); refine blk_far ?_ NB1332_1333.out _; (with_reducible repeat (first | refine blk_drewN ?_ _ | refine blk_drew ?_ | refine blk_alloc ?_ _)); refine blk_far ?_ NB1332_1333.out _; (with_reducible repeat (first | refine blk_drewN ?_ _ | refine blk_drew ?_ | refine blk_alloc ?_ _)); refine blk_put (cs := #[.int .i64 t1338, .int .i64 0]) ?_ 1 _ rfl; (with_reducible repeat (first | refine blk_drewN ?_ _ | refine blk_drew ?_ | refine blk_alloc ?_ _)); refine blk_put (cs := #[.int .i64 0, .int .i64 0]) ?_ 0 _ rfl; (with_reducible repeat (first | refine blk_drewN ?_ _ | refine blk_drew ?_ | refine blk_alloc ?_ _)); exact BK1332.out) Try.underlying73 rfl (by kernel_rfl) rfl (by (with_reducible repeat (first | refine blk_drewN ?_ _ | refine blk_drew ?_ | refine blk_alloc ?_ _)); refine blk_put (cs := #[.int .i64 t1343, .int .i64 t1344, .int .i64 t1345, .int .i64 0]) ?_ 3 _ rfl; (with_reducible repeat (first | refine blk_drewN ?_ _ | refine blk_drew ?_ | refine blk_alloc ?_ _)); refine blk_put (cs := #[.int .i64 t1343, .int .i64 t1344, .int .i64 0, .int .i64 0]) ?_ 2 _ rfl; (with_reducible repeat (first | refine blk_drewN ?_ _ | refine blk_drew ?_ | refine blk_alloc ?_ _)); refine blk_put (cs := #[.int .i64 t1343, .int .i64 0, .int .i64 0, .int .i64 0]) ?_ 1 _ rfl; (with_reducible repeat (first | refine blk_drewN ?_ _ | refine blk_drew ?_ | refine blk_alloc ?_ _)); refine blk_put (cs := #[.int .i64 0, .int .i64 0, .int .i64 0, .int .i64 0]) ?_ 0 _ rfl; (with_reducible repeat (first | refine blk_drewN ?_ _ | refine blk_drew ?_ | refine blk_alloc ?_ _)); refine blk_far ?_ NB1333_1332.out _; (with_reducible repeat (first | refine blk_drewN ?_ _ | refine blk_drew ?_ | refine blk_alloc ?_ _)); refine blk_far ?_ NB1333_1332.out _; (with_reducible repeat (first | refine blk_drewN ?_ _ | refine blk_drew ?_ | refine blk_alloc ?_ _)); exact BK1333.out) Try.underlying26 rfl (by kernel_rfl)) rfl ?_
   exact ⟨by first | rfl | (simp [errW_none, errW_some] <;> rfl) | (simp [*, errW_none, errW_some] <;> rfl), by repeat (first | (with_reducible first | exact HB.out | apply below_alloc | apply pw_below_drewN | apply below_drew1 | refine below_set ?_ (IsS157.ge HI1337.out) | refine below_set ?_ GE1332.out | refine below_set ?_ GE1333.out | refine below_set ?_ GE1342.out | refine below_set ?_ GE1349.out) | exact HB.out)⟩
end Go.Proofs.Ytbhlmeghbfmgiaa.F
