/- FnTempos, part 5 of 6: texts of the claim, joined into one file. -/
import Derived.Test.YtbhlmeghbfmgiaaZFnTempos4

namespace Go.Proofs.Ytbhlmeghbfmgiaa.F
open Go.RowKit Go.Proofs.YtbhlmeghbfmgiaaW.PrintWords Go.Proofs.YtbhlmeghbfmgiaaW.PrintLast Go.Proofs.YtbhlmeghbfmgiaaW.PrintMore
attribute [local go_sem] max2_int min2_int max_two min_two max_three min_three max_four min_four
set_option linter.unusedVariables false
set_option linter.unusedSimpArgs false
mutual
def spec_TimeOf.j0 : Nat → List (S151) → Int → Bool → Option (Int × Int × Bool)
 | 0, _, _, _ => none
 | k + 1, x0, x1, x20 => if x20 = true then (some (0, 0, false)) else (spec_TimeOf.l0 k x0 x1 0 0 1)
def spec_TimeOf.l0 : Nat → List (S151) → Int → Int → Int → Int → Option (Int × Int × Bool)
 | 0, _, _, _, _, _ => none
 | k + 1, x0, x1, x7, x710000, x710001 => if x7 < (x0.length : Int) then (if 0 ≤ x7 then (spec_TimeOf.j2 k x0 x1 x7 (decide (((rd_T151 x0 x7).f0) < x1)) x710000 x710001) else (none)) else (spec_TimeOf.j2 k x0 x1 x7 false x710000 x710001)
def spec_TimeOf.j2 : Nat → List (S151) → Int → Int → Bool → Int → Int → Option (Int × Int × Bool)
 | 0, _, _, _, _, _, _ => none
 | k + 1, x0, x1, x7, x35, x710000, x710001 => if x35 = true then (if (wrap64 (x7 + 1)) < (x0.length : Int) then (if 0 ≤ (wrap64 (x7 + 1)) then ((spec_Min.f x1 ((rd_T151 x0 (wrap64 (x7 + 1))).f0)).bind fun t712 => (spec_TimeOf.j3 k x0 x1 x7 t712 x710000 x710001)) else (none)) else (spec_TimeOf.j3 k x0 x1 x7 x1 x710000 x710001)) else (some (x710000, x710001, true))
def spec_TimeOf.j3 : Nat → List (S151) → Int → Int → Int → Int → Int → Option (Int × Int × Bool)
 | 0, _, _, _, _, _, _ => none
 | k + 1, x0, x1, x7, x8, x710000, x710001 => if 0 ≤ x7 then (if x7 < (x0.length : Int) then ((spec_MakeRatio.f k (wrap64 ((wrap64 (x8 - ((rd_T151 x0 x7).f0))) * 5000)) ((rd_T151 x0 x7).f1)).bind fun bt715 => ((spec_AddRatio.f k x710000 x710001 bt715.1 bt715.2.1).bind fun bt719 => (if bt719.2.2 = true then (spec_TimeOf.l0 k x0 x1 (wrap64 (x7 + 1)) bt719.1 bt719.2.1) else (some (0, 0, false))))) else (none)) else (none)
end
def spec_TimeOf.f (k : Nat) (l0 : List (S151)) (a1 : Int) : Option (Int × Int × Bool) := (spec_IsTempo.f k l0).bind fun t707 => (if t707 = true then ((spec_l1In.f a1 0 2000).bind fun t708 => (spec_TimeOf.j0 k l0 a1 (!t708))) else (spec_TimeOf.j0 k l0 a1 true))
def spec_TimeOf.T10 : Bool × List (List Nat × List Nat) := (true, [([], []), ([], []), ([], []), ([1, 2], [1, 2]), ([3], [3]), ([4], [4]), ([0, 5], [0, 5]), ([6], [6]), ([], []), ([], []), ([8, 9], [8, 9]), ([10], [10]), ([11], [11]), ([7, 12], [7, 12]), ([13], [13]), ([14], [14]), ([14], [14]), ([], []), ([17, 15, 13, 0, 1, 2, 3, 4, 5, 6, 7, 8, 9, 10, 11, 12, 13, 14, 15, 17], [15, 17]), ([16, 18, 0, 1, 2, 3, 4, 5, 6, 7, 8, 9, 10, 11, 12, 13, 14, 15, 16, 17, 18], [16])])
def spec_TimeOf.B10 : List Nat := [0, 0, 0, 6, 14, 30, 63, 127, 0, 0, 768, 1792, 3840, 8191, 16383, 32767, 32767, 0, 196607, 524287]
theorem spec_TimeOf.tab10 : rtab .any (opsOf Try.f98 10) = spec_TimeOf.T10 := by kernel_rfl
theorem spec_TimeOf.bits10 : waitsOk spec_TimeOf.T10.2 spec_TimeOf.B10 = true := by kernel_rfl
set_option maxHeartbeats 8000000 in
set_option maxRecDepth 100000 in
theorem spec_TimeOf.calls (k : Nat) (A0 : Option Addr) (c0 : Nat) (l0 : List (S151)) (a1 : Int) (r1 : Int) (r2 : Int) (r3 : Bool) (w : World) (hr0 : Kd.C k151 w A0 l0.length l0) (hc0 : l0.length ≤ c0) (h : spec_TimeOf.f k l0 a1 = some (r1, r2, r3)) :
  Calls Try.prog 98 #[.slice A0 l0.length c0, .int .i64 a1] w fun e w' => e = .returned (.tuple #[.agg #[.int .i64 r1, .int .i64 r2], .bool r3]) ∧ Below w.heap.size w w' := by
 have hu95 := Try.underlying95
 have HR0 := Aside0.mk hr0
 have HC0 := Aside0.mk hc0
 clear hr0 hc0
 have HB := Aside0.mk (Below.refl w.heap.size w)
 have H : ((spec_IsTempo.f k l0).bind fun t707 => (if t707 = true then ((spec_l1In.f a1 0 2000).bind fun t708 => (spec_TimeOf.j0 k l0 a1 (!t708))) else (spec_TimeOf.j0 k l0 a1 true))) = some (r1, r2, r3) := h
 clear h
 have HC3 := Aside0.mk H
 clear H
 go_enter Try.func98, Try.ntmps98
 go_upto_region 1 with (first | ((with_reducible refine gate_dst (N := 4) rfl ?_); refine box_event ?hg (N := 4) ?hd (cs := #[.int .i64 0, .int .i64 0]) (t := 95) ?hr ?_; (case hd => rfl); (case hg => rfl); (case hr => first | (go_simp; done) | (go_simp; rfl)); intro gb706 hg w4 hbox hb; have n0_ := Aside0.mk (below_step (by repeat (first | (with_reducible first | exact HB.out | apply below_alloc | apply pw_below_drewN | apply below_drew1) | exact HB.out)) hb); have n1_ := Aside0.mk (hbox); have n2_ := Aside0.mk ((by rw [hg]; exact (below_size (by repeat (first | (with_reducible first | exact HB.out | apply below_alloc | apply pw_below_drewN | apply below_drew1) | exact HB.out))) : w.heap.size ≤ gb706)); have n3_ := Aside0.mk ((by rw [hg]; exact (below_size (by repeat (first | (with_reducible first | exact HB.out | apply below_alloc | apply pw_below_drewN | apply below_drew1) | exact HB.out))) : w.heap.size ≤ gb706)); clear HB; have HB := n0_; have BK706 := n1_; have GW706 := n2_; have GE706 := n3_; clear n0_ n1_ n2_ n3_; clear hb hbox hg))
 (try simp only [Act.put, List.setIfInBounds_toArray, List.set_cons_zero, List.set_cons_succ])
 go_cut [20] (fun v20 wc => ∃ (kq : Nat) (x20_2 : Bool), v20 = .bool x20_2 ∧ Aside0 (spec_TimeOf.j0 kq l0 a1 x20_2 = some (r1, r2, r3)) ∧ Aside0 (kq ≤ k) ∧ Aside0 (wc.heap[gb706]? = some (.cells #[.int .i64 0, .int .i64 0] 95 (0, 0))) ∧ Aside0 (Below w.heap.size w wc))
 case first =>
  have H := HC3.out
  clear HC3
  replace H := Option.bind_eq_some_iff.mp H
  obtain ⟨t707, A50, H⟩ := H
  try dsimp only at H
  have A5 := Aside0.mk A50
  clear A50
  by_cases c6 : t707 = true
  ·
   subst c6
   rw [if_pos rfl] at H
   replace H := Option.bind_eq_some_iff.mp H
   obtain ⟨t708, A70, H⟩ := H
   try dsimp only at H
   have A7 := Aside0.mk A70
   clear A70
   have H' := Aside0.mk H
   clear H
   go_wp2_with (first | ((with_reducible refine gate_callee (f := 143) rfl ?_); refine goesL_ (some 14) rfl rfl Try.func143 (by kernel_rfl) rfl #[.slice A0 l0.length c0] rfl (by (try simp only [List.map_toArray, List.map_cons, List.map_nil]); first | done | rfl | (simp only [List.length_drop, List.length_take]; rfl)) ?_; (with_reducible refine (spec_IsTempo.calls k _ _ l0 true _ ?side1 ?side2 A5.out).mono ?_); (case side1 => repeat (first | exact (Kd.C_below HR0.out HB.out) | (with_reducible refine Kd.C_alloc ?_ _) | (with_reducible refine Kd.C_drewN ?_ _) | (with_reducible refine Kd.C_drew ?_))); (case side2 => exact HC0.out); rintro e w8 ⟨rfl, hb⟩; refine ⟨_, rfl, ?_⟩; have n0_ := Aside0.mk (blk_below (g := gb706) (o := .cells #[.int .i64 0, .int .i64 0] 95 (0, 0)) (by (with_reducible repeat (first | refine blk_drewN ?_ _ | refine blk_drew ?_ | refine blk_alloc ?_ _)); exact BK706.out) hb); have n1_ := Aside0.mk (below_step (by repeat (first | (with_reducible first | exact HB.out | apply below_alloc | apply pw_below_drewN | apply below_drew1 | refine below_set ?_ GE706.out) | exact HB.out)) hb); clear BK706; clear HB; have BK706 := n0_; have HB := n1_; clear n0_ n1_; (try clear hb); (try clear hb2); (try clear hk); (try clear hi)) | (go_at_call 110; (with_reducible refine (spec_l1In.calls a1 0 2000 t708 _ A7.out).mono ?_); rintro e w' ⟨rfl, ⟨nd, rfl⟩⟩))
   go_meet
   case rel => exact ⟨_, (!t708), (by first | rfl | (simp; done) | (simp [*]; done)), H', ⟨by first | omega | exact Nat.le_refl _⟩, ⟨by (with_reducible repeat (first | refine blk_drewN ?_ _ | refine blk_drew ?_ | refine blk_alloc ?_ _)); exact BK706.out⟩, ⟨by repeat (first | (with_reducible first | exact HB.out | apply below_alloc | apply pw_below_drewN | apply below_drew1 | refine below_set ?_ GE706.out) | exact HB.out)⟩⟩
  ·
   replace c6 := Bool.eq_false_iff.mpr c6
   subst c6
   rw [if_neg (show ¬ (false = true) by decide)] at H
   have H' := Aside0.mk H
   clear H
   go_wp2_with (first | ((with_reducible refine gate_callee (f := 143) rfl ?_); refine goesL_ (some 14) rfl rfl Try.func143 (by kernel_rfl) rfl #[.slice A0 l0.length c0] rfl (by (try simp only [List.map_toArray, List.map_cons, List.map_nil]); first | done | rfl | (simp only [List.length_drop, List.length_take]; rfl)) ?_; (with_reducible refine (spec_IsTempo.calls k _ _ l0 false _ ?side1 ?side2 A5.out).mono ?_); (case side1 => repeat (first | exact (Kd.C_below HR0.out HB.out) | (with_reducible refine Kd.C_alloc ?_ _) | (with_reducible refine Kd.C_drewN ?_ _) | (with_reducible refine Kd.C_drew ?_))); (case side2 => exact HC0.out); rintro e w9 ⟨rfl, hb⟩; refine ⟨_, rfl, ?_⟩; have n0_ := Aside0.mk (blk_below (g := gb706) (o := .cells #[.int .i64 0, .int .i64 0] 95 (0, 0)) (by (with_reducible repeat (first | refine blk_drewN ?_ _ | refine blk_drew ?_ | refine blk_alloc ?_ _)); exact BK706.out) hb); have n1_ := Aside0.mk (below_step (by repeat (first | (with_reducible first | exact HB.out | apply below_alloc | apply pw_below_drewN | apply below_drew1 | refine below_set ?_ GE706.out) | exact HB.out)) hb); clear BK706; clear HB; have BK706 := n0_; have HB := n1_; clear n0_ n1_; (try clear hb); (try clear hb2); (try clear hk); (try clear hi)))
   go_meet
   case rel => exact ⟨_, (true), (by first | rfl | (simp; done) | (simp [*]; done)), H', ⟨by first | omega | exact Nat.le_refl _⟩, ⟨by (with_reducible repeat (first | refine blk_drewN ?_ _ | refine blk_drew ?_ | refine blk_alloc ?_ _)); exact BK706.out⟩, ⟨by repeat (first | (with_reducible first | exact HB.out | apply below_alloc | apply pw_below_drewN | apply below_drew1 | refine below_set ?_ GE706.out) | exact HB.out)⟩⟩
 case rest =>
  clear HC3
  try clear c1
  try clear p2
  try clear c6
  try clear c9
  obtain ⟨kq, x20_2, rfl, HA, HJ2, BK706, HB⟩ := hcut
  cases kq with
  | zero => exact absurd HA.out (by simp [spec_TimeOf.j0])
  | succ kj2 =>
   have H := HA.out
   clear HA
   simp only [spec_TimeOf.j0] at H
   by_cases c10 : x20_2 = true
   ·
    subst c10
    rw [if_pos rfl] at H
    simp only [Option.some.injEq, Prod.mk.injEq] at H
    obtain ⟨rfl, rfl, rfl⟩ := H
    have hcz11_0 : wc.cell? ⟨gb706, 0, none⟩ = some (.int .i64 0) := (blk_cell BK706.out 0).trans rfl
    have hcz11_1 : wc.cell? ⟨gb706, 1, none⟩ = some (.int .i64 0) := (blk_cell BK706.out 1).trans rfl
    have hfz11_0 := blk_frozen BK706.out 0
    have hfz11_1 := blk_frozen BK706.out 1
    go_wp2
    refine bodyPost_ret (results_ct rfl _ _ gb706 95 #[.int .i64 0, .int .i64 0] (0, 0) _ rfl (by (with_reducible repeat (first | refine blk_drewN ?_ _ | refine blk_drew ?_ | refine blk_alloc ?_ _)); refine blk_put (cs := #[.int .i64 0, .int .i64 0]) ?_ 1 _ rfl; (with_reducible repeat (first | refine blk_drewN ?_ _ | refine blk_drew ?_ | refine blk_alloc ?_ _)); refine blk_put (cs := #[.int .i64 0, .int .i64 0]) ?_ 0 _ rfl; (with_reducible repeat (first | refine blk_drewN ?_ _ | refine blk_drew ?_ | refine blk_alloc ?_ _)); exact BK706.out) Try.underlying95 rfl (by kernel_rfl)) rfl ?_
    exact ⟨by first | rfl | (simp [errW_none, errW_some] <;> rfl) | (simp [*, errW_none, errW_some] <;> rfl), by repeat (first | (with_reducible first | exact HB.out | apply below_alloc | apply pw_below_drewN | apply below_drew1 | refine below_set ?_ GE706.out) | exact HB.out)⟩
   ·
    replace c10 := Bool.eq_false_iff.mpr c10
    subst c10
    rw [if_neg (show ¬ (false = true) by decide)] at H
    have H' := Aside0.mk H
    clear H
    go_wp2_with (first | ((with_reducible refine gate_dst (N := 6) rfl ?_); refine box_event ?hg (N := 6) ?hd (cs := #[.int .i64 0, .int .i64 0]) (t := 95) ?hr ?_; (case hd => rfl); (case hg => rfl); (case hr => first | (go_simp; done) | (go_simp; rfl)); intro gb709 hg w12 hbox hb; have n0_ := Aside0.mk (blk_below (g := gb706) (o := .cells #[.int .i64 0, .int .i64 0] 95 (0, 0)) (by (with_reducible repeat (first | refine blk_drewN ?_ _ | refine blk_drew ?_ | refine blk_alloc ?_ _)); exact BK706.out) hb); have n1_ := Aside0.mk (below_step (by repeat (first | (with_reducible first | exact HB.out | apply below_alloc | apply pw_below_drewN | apply below_drew1 | refine below_set ?_ GE706.out) | exact HB.out)) hb); have n2_ := Aside0.mk (hbox); have n3_ := Aside0.mk ((by rw [hg]; exact (below_size (by repeat (first | (with_reducible first | exact HB.out | apply below_alloc | apply pw_below_drewN | apply below_drew1 | refine below_set ?_ GE706.out) | exact HB.out))) : w.heap.size ≤ gb709)); have n4_ := Aside0.mk ((by rw [hg]; exact (below_size (by repeat (first | (with_reducible first | exact HB.out | apply below_alloc | apply pw_below_drewN | apply below_drew1 | refine below_set ?_ GE706.out) | exact HB.out))) : w.heap.size ≤ gb709)); have n5_ := Aside0.mk ((by rw [hg]; exact Nat.ne_of_lt (blk_lt (g := gb706) (o := .cells #[.int .i64 0, .int .i64 0] 95 (0, 0)) (by (with_reducible repeat (first | refine blk_drewN ?_ _ | refine blk_drew ?_ | refine blk_alloc ?_ _)); exact BK706.out)) : gb706 ≠ gb709)); have n6_ := Aside0.mk ((by rw [hg]; exact Nat.ne_of_gt (blk_lt (g := gb706) (o := .cells #[.int .i64 0, .int .i64 0] 95 (0, 0)) (by (with_reducible repeat (first | refine blk_drewN ?_ _ | refine blk_drew ?_ | refine blk_alloc ?_ _)); exact BK706.out)) : gb709 ≠ gb706)); clear BK706; clear HB; have BK706 := n0_; have HB := n1_; have BK709 := n2_; have GW709 := n3_; have GE709 := n4_; have NB706_709 := n5_; have NB709_706 := n6_; clear n0_ n1_ n2_ n3_ n4_ n5_ n6_; clear hb hbox hg; have hnb13 := NB709_706.out; have hnc13 := NB706_709.out; have hcz14_0 : w12.cell? ⟨gb709, 0, none⟩ = some (.int .i64 0) := (blk_cell BK709.out 0).trans rfl; have hcz14_1 : w12.cell? ⟨gb709, 1, none⟩ = some (.int .i64 0) := (blk_cell BK709.out 1).trans rfl; have hfz14_0 := blk_frozen BK709.out 0; have hfz14_1 := blk_frozen BK709.out 1))
    go_loopg [7] kj2 (fun kq v7 w' => ∃ (x7_2 : Int) (x707000_2 : Int) (x707001_2 : Int) (x710000_2 : Int) (x710001_2 : Int), v7 = .int .i64 x7_2 ∧ Aside0 (spec_TimeOf.l0 kq l0 a1 x7_2 x710000_2 x710001_2 = some (r1, r2, r3)) ∧ Aside0 (kq ≤ kj2) ∧ Aside0 (w'.heap[gb706]? = some (.cells #[.int .i64 x707000_2, .int .i64 x707001_2] 95 (0, 0))) ∧ Aside0 (w'.heap[gb709]? = some (.cells #[.int .i64 x710000_2, .int .i64 x710001_2] 95 (0, 0))) ∧ Aside0 (Below w.heap.size w w'))
    case atStart => exact ⟨(0), (0), (0), (0), (1), (by first | rfl | (simp; done) | (simp [*]; done)), H', ⟨Nat.le_refl _⟩, ⟨by (with_reducible repeat (first | refine blk_drewN ?_ _ | refine blk_drew ?_ | refine blk_alloc ?_ _)); refine blk_far ?_ NB706_709.out _; (with_reducible repeat (first | refine blk_drewN ?_ _ | refine blk_drew ?_ | refine blk_alloc ?_ _)); refine blk_far ?_ NB706_709.out _; (with_reducible repeat (first | refine blk_drewN ?_ _ | refine blk_drew ?_ | refine blk_alloc ?_ _)); exact BK706.out⟩, ⟨by (with_reducible repeat (first | refine blk_drewN ?_ _ | refine blk_drew ?_ | refine blk_alloc ?_ _)); refine blk_put (cs := #[.int .i64 0, .int .i64 0]) ?_ 1 _ rfl; (with_reducible repeat (first | refine blk_drewN ?_ _ | refine blk_drew ?_ | refine blk_alloc ?_ _)); refine blk_put (cs := #[.int .i64 0, .int .i64 0]) ?_ 0 _ rfl; (with_reducible repeat (first | refine blk_drewN ?_ _ | refine blk_drew ?_ | refine blk_alloc ?_ _)); exact BK709.out⟩, ⟨by repeat (first | (with_reducible first | exact HB.out | apply below_alloc | apply pw_below_drewN | apply below_drew1 | refine below_set ?_ GE706.out | refine below_set ?_ GE709.out) | exact HB.out)⟩⟩
    case round =>
     clear H'
     try clear c1
     try clear p2
     try clear c6
     try clear c9
     try clear c10
     try clear c13
     try clear c14
     try clear hcz11_0
     try clear hcz11_1
     try clear hcz14_0
     try clear hcz14_1
     try clear hfz11_0
     try clear hfz11_1
     try clear hfz14_0
     try clear hfz14_1
     try clear p2
     obtain ⟨x7_2, x707000_2, x707001_2, x710000_2, x710001_2, rfl, HA, HK2, BK706, BK709, HB⟩ := hrel
     cases gk with
     | zero => exact absurd HA.out (by simp [spec_TimeOf.l0])
     | succ k2 =>
      have H := HA.out
      clear HA
      simp only [spec_TimeOf.l0] at H
      have HC15 := Aside0.mk H
      clear H
      go_upto_region 5 with (fail)
      go_cut [35] (fun v35 wc => ∃ (kq : Nat) (x35_14 : Bool), v35 = .bool x35_14 ∧ Aside0 (spec_TimeOf.j2 kq l0 a1 x7_2 x35_14 x710000_2 x710001_2 = some (r1, r2, r3)) ∧ Aside0 (kq ≤ k2) ∧ Aside0 (wc.heap[gb706]? = some (.cells #[.int .i64 x707000_2, .int .i64 x707001_2] 95 (0, 0))) ∧ Aside0 (wc.heap[gb709]? = some (.cells #[.int .i64 x710000_2, .int .i64 x710001_2] 95 (0, 0))) ∧ Aside0 (Below w.heap.size w wc))
      case first =>
       have H := HC15.out
       clear HC15
       by_cases c16 : x7_2 < (l0.length : Int)
       ·
        rw [if_pos c16] at H
        have c16b0 : decide (x7_2 < (l0.length : Int)) = true := decide_eq_true c16
        clear c16
        (first | rw [c16b0] | (simp only [i64_w, i32_w]; rw [c16b0]) | skip)
        by_cases c17 : 0 ≤ x7_2
        ·
         rw [if_pos c17] at H
         have c17b0 : decide (0 ≤ x7_2) = true := decide_eq_true c17
         clear c17
         have H' := Aside0.mk H
         clear H
         have p710 : 0 ≤ (x7_2 : Int) := of_decide_eq_true (by first | (with_reducible assumption) | assumption)
         have q710 : x7_2 < (l0.length : Int) := of_decide_eq_true (by first | (with_reducible assumption) | assumption)
         obtain ⟨ad710, e710, hx710_0, hx710_1⟩ := at_T151 HR0.out x7_2 p710 q710
         cases e710
         replace hx710_0 := (HB.out.cell (World.block_lt_of_cell? w _ hx710_0)).trans hx710_0
         replace hx710_1 := (HB.out.cell (World.block_lt_of_cell? w _ hx710_1)).trans hx710_1
         replace p710 := eq_true p710
         replace q710 := eq_true q710
         go_wp2
         go_meet
         case rel => exact ⟨_, (decide (((rd_T151 l0 x7_2).f0) < a1)), (by first | rfl | (simp; done) | (simp [*]; done)), H', ⟨by have := HJ2.out; have := HK2.out; first | omega | exact Nat.le_refl _⟩, ⟨by (with_reducible repeat (first | refine blk_drewN ?_ _ | refine blk_drew ?_ | refine blk_alloc ?_ _)); exact BK706.out⟩, ⟨by (with_reducible repeat (first | refine blk_drewN ?_ _ | refine blk_drew ?_ | refine blk_alloc ?_ _)); exact BK709.out⟩, ⟨by repeat (first | (with_reducible first | exact HB.out | apply below_alloc | apply pw_below_drewN | apply below_drew1 | refine below_set ?_ GE706.out | refine below_set ?_ GE709.out) | exact HB.out)⟩⟩
        ·
         rw [if_neg c17] at H
         exact absurd H (by simp)
       ·
        rw [if_neg c16] at H
        have c16b0 : decide (x7_2 < (l0.length : Int)) = false := decide_eq_false c16
        clear c16
        (first | rw [c16b0] | (simp only [i64_w, i32_w]; rw [c16b0]) | skip)
        have H' := Aside0.mk H
        clear H
        go_wp2
        go_meet
        case rel => exact ⟨_, (false), (by first | rfl | (simp; done) | (simp [*]; done)), H', ⟨by have := HJ2.out; have := HK2.out; first | omega | exact Nat.le_refl _⟩, ⟨by (with_reducible repeat (first | refine blk_drewN ?_ _ | refine blk_drew ?_ | refine blk_alloc ?_ _)); exact BK706.out⟩, ⟨by (with_reducible repeat (first | refine blk_drewN ?_ _ | refine blk_drew ?_ | refine blk_alloc ?_ _)); exact BK709.out⟩, ⟨by repeat (first | (with_reducible first | exact HB.out | apply below_alloc | apply pw_below_drewN | apply below_drew1 | refine below_set ?_ GE706.out | refine below_set ?_ GE709.out) | exact HB.out)⟩⟩
      case rest =>
       clear HC15
       try clear c1
       try clear p2
       try clear c6
       try clear p7
       try clear q7
       try clear hx7
       try clear c9
       try clear c10
       try clear c13
       try clear c14
       try clear c16
       try clear c16b0
       try clear c17
       try clear c17b0
       try clear hcz11_0
       try clear hcz11_1
       try clear hcz14_0
       try clear hcz14_1
       try clear hfz11_0
       try clear hfz11_1
       try clear hfz14_0
       try clear hfz14_1
       try clear hx710_0
       try clear hx710_1
       try clear p2
       try clear p710
       try clear q710
       obtain ⟨kq, x35_14, rfl, HA, HJ14, BK706, BK709, HB⟩ := hcut
       cases kq with
       | zero => exact absurd HA.out (by simp [spec_TimeOf.j2])
       | succ kj14 =>
        have H := HA.out
        clear HA
        simp only [spec_TimeOf.j2] at H
        by_cases c18 : x35_14 = true
        ·
         subst c18
         rw [if_pos rfl] at H
         have HC19 := Aside0.mk H
         clear H
         go_upto_if 43 with (fail)
         go_cut [8] (fun v8 wc => ∃ (kq : Nat) (x8_18 : Int), v8 = .int .i64 x8_18 ∧ Aside0 (spec_TimeOf.j3 kq l0 a1 x7_2 x8_18 x710000_2 x710001_2 = some (r1, r2, r3)) ∧ Aside0 (kq ≤ kj14) ∧ Aside0 (wc.heap[gb706]? = some (.cells #[.int .i64 x707000_2, .int .i64 x707001_2] 95 (0, 0))) ∧ Aside0 (wc.heap[gb709]? = some (.cells #[.int .i64 x710000_2, .int .i64 x710001_2] 95 (0, 0))) ∧ Aside0 (Below w.heap.size w wc))
         case first =>
          have H := HC19.out
          clear HC19
          by_cases c20 : (wrap64 (x7_2 + 1)) < (l0.length : Int)
          ·
           rw [if_pos c20] at H
           have c20b0 : decide ((wrap64 (x7_2 + 1)) < (l0.length : Int)) = true := decide_eq_true c20
           clear c20
           (first | rw [c20b0] | (simp only [i64_w, i32_w]; rw [c20b0]) | skip)
           obtain ⟨ji21, hji21⟩ : ∃ j_ : Int, (wrap64 (x7_2 + 1)) = j_ := ⟨_, rfl⟩
           replace H : (if 0 ≤ (ji21) then ((spec_Min.f a1 ((rd_T151 l0 (ji21)).f0)).bind fun t712 => (spec_TimeOf.j3 kj14 l0 a1 x7_2 t712 x710000_2 x710001_2)) else (none)) = some (r1, r2, r3) := by first | (rw [hji21] at H; exact H) | (simp only [hji21] at H ⊢; exact H)
           (try rw [hji21] at c20b0)
           have hji21w : (IntKind.i64.wrap (x7_2 + 1)) = ji21 := (i64_w _).trans hji21
           by_cases c22 : 0 ≤ (ji21)
           ·
            rw [if_pos c22] at H
            have c22b0 : decide (0 ≤ (ji21)) = true := decide_eq_true c22
            clear c22
            replace H := Option.bind_eq_some_iff.mp H
            obtain ⟨t712, A230, H⟩ := H
            try dsimp only at H
            have A23 := Aside0.mk A230
            clear A230
            have H' := Aside0.mk H
            clear H
            have p711 : 0 ≤ ((ji21) : Int) := of_decide_eq_true (by first | (with_reducible assumption) | assumption)
            have q711 : (ji21) < (l0.length : Int) := of_decide_eq_true (by first | (with_reducible assumption) | assumption)
            obtain ⟨ad711, e711, hx711_0, hx711_1⟩ := at_T151 HR0.out (ji21) p711 q711
            cases e711
            replace hx711_0 := (HB.out.cell (World.block_lt_of_cell? w _ hx711_0)).trans hx711_0
            replace hx711_1 := (HB.out.cell (World.block_lt_of_cell? w _ hx711_1)).trans hx711_1
            replace p711 := eq_true p711
            replace q711 := eq_true q711
            go_wp2_with (first | ((with_reducible refine gate_callee (f := 144) rfl ?_); refine goesL_ (some 51) rfl rfl Try.func144 (by kernel_rfl) rfl #[.int .i64 a1, .int .i64 ((rd_T151 l0 (ji21)).f0)] rfl (by (try simp only [List.map_toArray, List.map_cons, List.map_nil]); first | done | (simp only [hji21]; rfl) | rfl | (simp only [List.length_drop, List.length_take]; rfl)) ?_; (with_reducible refine (spec_Min.calls a1 ((rd_T151 l0 (ji21)).f0) t712 _ A23.out).mono ?_); rintro e w' ⟨rfl, ⟨nd, rfl⟩⟩; refine ⟨_, rfl, ?_⟩))
            go_meet
            case rel => exact ⟨_, (t712), (by first | rfl | (simp; done) | (simp [*]; done)), H', ⟨by have := HJ2.out; have := HK2.out; have := HJ14.out; first | omega | exact Nat.le_refl _⟩, ⟨by (with_reducible repeat (first | refine blk_drewN ?_ _ | refine blk_drew ?_ | refine blk_alloc ?_ _)); exact BK706.out⟩, ⟨by (with_reducible repeat (first | refine blk_drewN ?_ _ | refine blk_drew ?_ | refine blk_alloc ?_ _)); exact BK709.out⟩, ⟨by repeat (first | (with_reducible first | exact HB.out | apply below_alloc | apply pw_below_drewN | apply below_drew1 | refine below_set ?_ GE706.out | refine below_set ?_ GE709.out) | exact HB.out)⟩⟩
           ·
            rw [if_neg c22] at H
            exact absurd H (by simp)
          ·
           rw [if_neg c20] at H
           have c20b0 : decide ((wrap64 (x7_2 + 1)) < (l0.length : Int)) = false := decide_eq_false c20
           clear c20
           (first | rw [c20b0] | (simp only [i64_w, i32_w]; rw [c20b0]) | skip)
           have H' := Aside0.mk H
           clear H
           go_wp2
           go_meet
           case rel => exact ⟨_, (a1), (by first | rfl | (simp; done) | (simp [*]; done)), H', ⟨by have := HJ2.out; have := HK2.out; have := HJ14.out; first | omega | exact Nat.le_refl _⟩, ⟨by (with_reducible repeat (first | refine blk_drewN ?_ _ | refine blk_drew ?_ | refine blk_alloc ?_ _)); exact BK706.out⟩, ⟨by (with_reducible repeat (first | refine blk_drewN ?_ _ | refine blk_drew ?_ | refine blk_alloc ?_ _)); exact BK709.out⟩, ⟨by repeat (first | (with_reducible first | exact HB.out | apply below_alloc | apply pw_below_drewN | apply below_drew1 | refine below_set ?_ GE706.out | refine below_set ?_ GE709.out) | exact HB.out)⟩⟩
         case rest =>
          clear HC19
          try clear c1
          try clear c2
          try clear p2
          try clear c6
          try clear p6
          try clear p7
          try clear q7
          try clear hx7
          try clear c9
          try clear c10
          try clear c13
          try clear c14
          try clear c16
          try clear c16b0
          try clear c17
          try clear c17b0
          try clear c18
          try clear c20
          try clear c20b0
          try clear c22
          try clear c22b0
          try clear hcz11_0
          try clear hcz11_1
          try clear hcz14_0
          try clear hcz14_1
          try clear hfz11_0
          try clear hfz11_1
          try clear hfz14_0
          try clear hfz14_1
          try clear hx710_0
          try clear hx710_1
          try clear hx711_0
          try clear hx711_1
          try clear p2
          try clear p7
          try clear p710
          try clear p711
          try clear q7
          try clear q710
          try clear q711
          obtain ⟨kq, x8_18, rfl, HA, HJ18, BK706, BK709, HB⟩ := hcut
          cases kq with
          | zero => exact absurd HA.out (by simp [spec_TimeOf.j3])
          | succ kj18 =>
           have H := HA.out
           clear HA
           simp only [spec_TimeOf.j3] at H
           by_cases c24 : 0 ≤ x7_2
           ·
            rw [if_pos c24] at H
            have c24b0 : decide (0 ≤ x7_2) = true := decide_eq_true c24
            clear c24
            by_cases c25 : x7_2 < (l0.length : Int)
            ·
             rw [if_pos c25] at H
             have c25b0 : decide (x7_2 < (l0.length : Int)) = true := decide_eq_true c25
             clear c25
             replace H := Option.bind_eq_some_iff.mp H
             obtain ⟨⟨t715, t716, t717⟩, A260, H⟩ := H
             try dsimp only at H
             have A26 := Aside0.mk A260
             clear A260
             replace H := Option.bind_eq_some_iff.mp H
             obtain ⟨⟨t719, t720, t721⟩, A270, H⟩ := H
             try dsimp only at H
             have A27 := Aside0.mk A270
             clear A270
             by_cases c28 : t721 = true
             ·
              subst c28
              rw [if_pos rfl] at H
              have H' := Aside0.mk H
              clear H
              try go_wp2
              have n0_ := Aside0.mk (blk_drew BK706.out)
              have n1_ := Aside0.mk (blk_drew BK709.out)
              have n2_ := Aside0.mk (below_drew1 HB.out)
              clear BK706
              clear BK709
              clear HB
              have BK706 := n0_
              have BK709 := n1_
              have HB := n2_
              clear n0_ n1_ n2_
              have p713 : 0 ≤ (x7_2 : Int) := of_decide_eq_true (by first | (with_reducible assumption) | assumption)
              have q713 : x7_2 < (l0.length : Int) := of_decide_eq_true (by first | (with_reducible assumption) | assumption)
              obtain ⟨ad713, e713, hx713_0, hx713_1⟩ := at_T151 HR0.out x7_2 p713 q713
              have hw713_1 := hx713_1
              have hw713_0 := hx713_0
              cases e713
              replace hx713_0 := (HB.out.cell (World.block_lt_of_cell? w _ hx713_0)).trans hx713_0
              replace hx713_1 := (HB.out.cell (World.block_lt_of_cell? w _ hx713_1)).trans hx713_1
              replace p713 := eq_true p713
              replace q713 := eq_true q713
              have p714 : 0 ≤ (x7_2 : Int) := of_decide_eq_true (by first | (with_reducible assumption) | assumption)
              have q714 : x7_2 < (l0.length : Int) := of_decide_eq_true (by first | (with_reducible assumption) | assumption)
              obtain ⟨ad714, e714, hx714_0, hx714_1⟩ := at_T151 HR0.out x7_2 p714 q714
              have hw714_1 := hx714_1
              have hw714_0 := hx714_0
              obtain rfl : ad713 = ad714 := (by injection e714)
              replace hx714_0 := (HB.out.cell (World.block_lt_of_cell? w _ hx714_0)).trans hx714_0
              replace hx714_1 := (HB.out.cell (World.block_lt_of_cell? w _ hx714_1)).trans hx714_1
              replace p714 := eq_true p714
              replace q714 := eq_true q714
              refine start_ (n := 20) (S := fun w' => w'.cell? (ad713.add ((x7_2).toNat * 2)) = some (.int .i64 ((rd_T151 l0 x7_2).f0)) ∧ w'.cell? ⟨(ad713.add ((x7_2).toNat * 2)).block, (ad713.add ((x7_2).toNat * 2)).off + 1, none⟩ = some (.int .i64 ((rd_T151 l0 x7_2).f1)) ∧ w'.cell? (ad713.add ((x7_2).toNat * 2)) = some (.int .i64 ((rd_T151 l0 x7_2).f0)) ∧ w'.cell? ⟨(ad713.add ((x7_2).toNat * 2)).block, (ad713.add ((x7_2).toNat * 2)).off + 1, none⟩ = some (.int .i64 ((rd_T151 l0 x7_2).f1))) (ds := []) #[false, false, false, false, false, false, false, false, false, false, false, false, false, false, false, false, false, false, false, false] (by kernel_rfl) rfl rfl ⟨((HB.out.cell (World.block_lt_of_cell? w _ hw713_0)).trans hw713_0), ((HB.out.cell (World.block_lt_of_cell? w _ hw713_1)).trans hw713_1), ((HB.out.cell (World.block_lt_of_cell? w _ hw714_0)).trans hw714_0), ((HB.out.cell (World.block_lt_of_cell? w _ hw714_1)).trans hw714_1)⟩ (fun hHeld => ?_); refine with_tabW spec_TimeOf.tab10 spec_TimeOf.bits10 (fun HT_ HW_ => ?_)
              generalize wc.drew = w29 at BK706 BK709 HB hx713_0 hx713_1 hx714_0 hx714_1 hHeld ⊢
              refine pure_ (i := 0) (N := some 53) (v := ?_) (a' := ?_) #[true, false, false, false, false, false, false, false, false, false, false, false, false, false, false, false, false, false, false, false] rfl rfl (any_of HT_.out (by kernel_rfl)) (fun _ _ _ h => h) (Or.inl ⟨by rfl, ?_⟩) ?_ ?_
              rotate_left
              ·
               intro w'
               go_simp
               with_reducible rfl
              rotate_left
              ·
               simp only [Act.put, List.setIfInBounds_toArray, List.set_cons_zero, List.set_cons_succ, i64_w, i32_w]
               rfl
              refine pure_ (i := 1) (N := some 54) (v := ?_) (a' := ?_) #[true, true, false, false, false, false, false, false, false, false, false, false, false, false, false, false, false, false, false, false] rfl rfl (any_of HT_.out (by kernel_rfl)) (fun _ _ _ h => h) (Or.inl ⟨by rfl, ?_⟩) ?_ ?_
              rotate_left
              ·
               intro w'
               go_simp
               with_reducible rfl
              rotate_left
              ·
               simp only [Act.put, List.setIfInBounds_toArray, List.set_cons_zero, List.set_cons_succ, i64_w, i32_w]
               rfl
              refine pure_ (i := 2) (N := some 55) (v := ?_) (a' := ?_) #[true, true, true, false, false, false, false, false, false, false, false, false, false, false, false, false, false, false, false, false] rfl rfl (any_of HT_.out (by kernel_rfl)) (fun _ _ _ h => h) (Or.inl ⟨by rfl, ?_⟩) ?_ ?_
              rotate_left
              ·
               intro w'
               go_simp
               with_reducible rfl
              rotate_left
              ·
               simp only [Act.put, List.setIfInBounds_toArray, List.set_cons_zero, List.set_cons_succ, i64_w, i32_w]
               rfl
              refine pure_ (i := 3) (N := some 56) (v := ?_) (a' := ?_) #[true, true, true, true, false, false, false, false, false, false, false, false, false, false, false, false, false, false, false, false] rfl rfl (any_of HT_.out (by kernel_rfl)) (fun _ _ _ h => h) (Or.inl ⟨by rfl, ?_⟩) ?_ ?_
              rotate_left
              ·
               intro w'
               go_simp
               with_reducible rfl
              rotate_left
              ·
               simp only [Act.put, List.setIfInBounds_toArray, List.set_cons_zero, List.set_cons_succ, i64_w, i32_w]
               rfl
              refine pure_ (i := 4) (N := some 57) (v := ?_) (a' := ?_) #[true, true, true, true, true, false, false, false, false, false, false, false, false, false, false, false, false, false, false, false] rfl rfl (any_of HT_.out (by kernel_rfl)) (fun _ _ _ h => h) (Or.inl ⟨by rfl, ?_⟩) ?_ ?_
              rotate_left
              ·
               intro w'
               go_simp
               with_reducible rfl
              rotate_left
              ·
               simp only [Act.put, List.setIfInBounds_toArray, List.set_cons_zero, List.set_cons_succ, i64_w, i32_w]
               rfl
              refine pure_ (i := 8) (N := some 61) (v := ?_) (a' := ?_) #[true, true, true, true, true, false, false, false, true, false, false, false, false, false, false, false, false, false, false, false] rfl rfl (any_of HT_.out (by kernel_rfl)) (fun _ _ _ h => h) (Or.inl ⟨by rfl, ?_⟩) ?_ ?_
              rotate_left
              ·
               intro w'
               go_simp
               with_reducible rfl
              rotate_left
              ·
               simp only [Act.put, List.setIfInBounds_toArray, List.set_cons_zero, List.set_cons_succ, i64_w, i32_w]
               rfl
              refine pure_ (i := 9) (N := some 62) (v := ?_) (a' := ?_) #[true, true, true, true, true, false, false, false, true, true, false, false, false, false, false, false, false, false, false, false] rfl rfl (any_of HT_.out (by kernel_rfl)) (fun _ _ _ h => h) (Or.inl ⟨by rfl, ?_⟩) ?_ ?_
              rotate_left
              ·
               intro w'
               go_simp
               with_reducible rfl
              rotate_left
              ·
               simp only [Act.put, List.setIfInBounds_toArray, List.set_cons_zero, List.set_cons_succ, i64_w, i32_w]
               rfl
              refine pure_ (i := 10) (N := some 63) (v := ?_) (a' := ?_) #[true, true, true, true, true, false, false, false, true, true, true, false, false, false, false, false, false, false, false, false] rfl rfl (any_of HT_.out (by kernel_rfl)) (fun _ _ _ h => h) (Or.inl ⟨by rfl, ?_⟩) ?_ ?_
              rotate_left
              ·
               intro w'
               go_simp
               with_reducible rfl
              rotate_left
              ·
               simp only [Act.put, List.setIfInBounds_toArray, List.set_cons_zero, List.set_cons_succ, i64_w, i32_w]
               rfl
              refine pure_ (i := 11) (N := some 64) (v := ?_) (a' := ?_) #[true, true, true, true, true, false, false, false, true, true, true, true, false, false, false, false, false, false, false, false] rfl rfl (any_of HT_.out (by kernel_rfl)) (fun _ _ _ h => h) (Or.inl ⟨by rfl, ?_⟩) ?_ ?_
              rotate_left
              ·
               intro w'
               go_simp
               with_reducible rfl
              rotate_left
              ·
               simp only [Act.put, List.setIfInBounds_toArray, List.set_cons_zero, List.set_cons_succ, i64_w, i32_w]
               rfl
              refine take_ (i := 5) (N := some 58) (v := ?_) (a' := ?_) #[true, true, true, true, true, true, false, false, true, true, true, true, false, false, false, false, false, false, false, false] rfl rfl (take_ofW HT_.out HW_.out (by kernel_rfl)) (fun _ _ _ h => h) (Or.inl ⟨by rfl, ?_⟩) hHeld ?_ ?_
              rotate_left
              ·
               rintro w' ⟨s0, s1, s2, s3⟩
               go_simp
               with_reducible rfl
              rotate_left
              ·
               simp only [Act.put, List.setIfInBounds_toArray, List.set_cons_zero, List.set_cons_succ, i64_w, i32_w]
               rfl
              refine pure_ (i := 6) (N := some 59) (v := ?_) (a' := ?_) #[true, true, true, true, true, true, true, false, true, true, true, true, false, false, false, false, false, false, false, false] rfl rfl (any_of HT_.out (by kernel_rfl)) (fun _ _ _ h => h) (Or.inl ⟨by rfl, ?_⟩) ?_ ?_
              rotate_left
              ·
               intro w'
               go_simp
               with_reducible rfl
              rotate_left
              ·
               simp only [Act.put, List.setIfInBounds_toArray, List.set_cons_zero, List.set_cons_succ, i64_w, i32_w]
               rfl
              refine pure_ (i := 7) (N := some 60) (v := ?_) (a' := ?_) #[true, true, true, true, true, true, true, true, true, true, true, true, false, false, false, false, false, false, false, false] rfl rfl (any_of HT_.out (by kernel_rfl)) (fun _ _ _ h => h) (Or.inl ⟨by rfl, ?_⟩) ?_ ?_
              rotate_left
              ·
               intro w'
               go_simp
               with_reducible rfl
              rotate_left
              ·
               simp only [Act.put, List.setIfInBounds_toArray, List.set_cons_zero, List.set_cons_succ, i64_w, i32_w]
               rfl
              refine take_ (i := 12) (N := some 65) (v := ?_) (a' := ?_) #[true, true, true, true, true, true, true, true, true, true, true, true, true, false, false, false, false, false, false, false] rfl rfl (take_ofW HT_.out HW_.out (by kernel_rfl)) (fun _ _ _ h => h) (Or.inl ⟨by rfl, ?_⟩) hHeld ?_ ?_
              rotate_left
              ·
               rintro w' ⟨s0, s1, s2, s3⟩
               go_simp
               with_reducible rfl
              rotate_left
              ·
               simp only [Act.put, List.setIfInBounds_toArray, List.set_cons_zero, List.set_cons_succ, i64_w, i32_w]
               rfl
              refine join_ (σ := Nat) 2 #[true, true, true, true, true, true, true, true, true, true, true, true, true, true, true, true, true, true, false, false] (fun s_ => [(66, .tuple #[.agg #[.int .i64 t715, .int .i64 t716], .bool t717]), (9, .pointer (some ⟨s_, 0, none⟩)), (52, .tuple #[.agg #[.int .i64 t715, .int .i64 t716], .bool t717]), (67, .agg #[.int .i64 t715, .int .i64 t716]), (68, .bool t717)]) (fun s_ w' => (w'.cell? (ad713.add ((x7_2).toNat * 2)) = some (.int .i64 ((rd_T151 l0 x7_2).f0)) ∧ w'.cell? ⟨(ad713.add ((x7_2).toNat * 2)).block, (ad713.add ((x7_2).toNat * 2)).off + 1, none⟩ = some (.int .i64 ((rd_T151 l0 x7_2).f1)) ∧ w'.cell? (ad713.add ((x7_2).toNat * 2)) = some (.int .i64 ((rd_T151 l0 x7_2).f0)) ∧ w'.cell? ⟨(ad713.add ((x7_2).toNat * 2)).block, (ad713.add ((x7_2).toNat * 2)).off + 1, none⟩ = some (.int .i64 ((rd_T151 l0 x7_2).f1))) ∧ (w'.heap[gb706]? = some (.cells #[.int .i64 x707000_2, .int .i64 x707001_2] 95 (0, 0))) ∧ (w'.heap[gb709]? = some (.cells #[.int .i64 x710000_2, .int .i64 x710001_2] 95 (0, 0))) ∧ (w'.heap[s_]? = some (.cells #[.int .i64 0, .int .i64 0] 95 (0, 0))) ∧ (w.heap.size ≤ s_) ∧ (w.heap.size ≤ s_) ∧ (gb706 ≠ s_) ∧ (s_ ≠ gb706) ∧ (gb709 ≠ s_) ∧ (s_ ≠ gb709) ∧ (Below w.heap.size w w')) ?_ ?_
              rotate_left
              ·
               intro hCont
               refine two_ (i := 13) (j := 17) (Ni := some 66) (Nj := some 9) #[true, true, true, true, true, true, true, true, true, true, true, true, true, true, false, false, false, false, false, false] #[true, true, true, true, true, true, true, true, true, true, true, true, true, false, false, false, false, true, false, false] rfl rfl rfl rfl (two_of HT_.out (by kernel_rfl)) (by decide) (by decide) (fun K hK => ?_) (fun K hK => ?_)
               ·
                skip
                refine goes_ Try.func122 (by kernel_rfl) rfl #[.int .i64 (wrap64 ((wrap64 (x8_18 - ((rd_T151 l0 x7_2).f0))) * 5000)), .int .i64 ((rd_T151 l0 x7_2).f1)] (by rfl) rfl rfl (by (try simp only [List.map_toArray, List.map_cons, List.map_nil]); first | done | rfl | (simp only [List.length_drop, List.length_take]; rfl)) ?_
                with_reducible refine (spec_MakeRatio.calls kj18 (wrap64 ((wrap64 (x8_18 - ((rd_T151 l0 x7_2).f0))) * 5000)) ((rd_T151 l0 x7_2).f1) t715 t716 t717 _ A26.out).mono ?_
                rintro e w30 ⟨rfl, hb⟩
                refine ⟨_, rfl, ?_⟩
                have n0_ := Aside0.mk (blk_below (g := gb706) (o := .cells #[.int .i64 x707000_2, .int .i64 x707001_2] 95 (0, 0)) (by (with_reducible repeat (first | refine blk_drewN ?_ _ | refine blk_drew ?_ | refine blk_alloc ?_ _)); exact BK706.out) hb)
                have n1_ := Aside0.mk (blk_below (g := gb709) (o := .cells #[.int .i64 x710000_2, .int .i64 x710001_2] 95 (0, 0)) (by (with_reducible repeat (first | refine blk_drewN ?_ _ | refine blk_drew ?_ | refine blk_alloc ?_ _)); exact BK709.out) hb)
                have n2_ := Aside0.mk (below_step (by repeat (first | (with_reducible first | exact HB.out | apply below_alloc | apply pw_below_drewN | apply below_drew1 | refine below_set ?_ GE706.out | refine below_set ?_ GE709.out) | exact HB.out)) hb)
                clear BK706
                clear BK709
                clear HB
                have BK706 := n0_
                have BK709 := n1_
                have HB := n2_
                clear n0_ n1_ n2_
                (try clear hb)
                (try clear hb2)
                (try clear hk)
                (try clear hi)
                refine hK.out _ _ ⟨((HB.out.cell (World.block_lt_of_cell? w _ hw713_0)).trans hw713_0), ((HB.out.cell (World.block_lt_of_cell? w _ hw713_1)).trans hw713_1), ((HB.out.cell (World.block_lt_of_cell? w _ hw714_0)).trans hw714_0), ((HB.out.cell (World.block_lt_of_cell? w _ hw714_1)).trans hw714_1)⟩ (fun hHeld => ?_)
                clear hK K
                refine norm_ (a' := ?_) ?_ ?_
                rotate_left
                ·
                 show Act.put _ (some 66) _ = _
                 simp only [Act.put, List.setIfInBounds_toArray, List.set_cons_zero, List.set_cons_succ, i64_w, i32_w]
                 rfl
                refine pure_ (i := 14) (N := some 52) (v := ?_) (a' := ?_) #[true, true, true, true, true, true, true, true, true, true, true, true, true, true, true, false, false, false, false, false] rfl rfl (any_of HT_.out (by kernel_rfl)) (fun _ _ _ h => h) (Or.inl ⟨by rfl, ?_⟩) ?_ ?_
                rotate_left
                ·
                 intro w'
                 go_simp
                 with_reducible rfl
                rotate_left
                ·
                 simp only [Act.put, List.setIfInBounds_toArray, List.set_cons_zero, List.set_cons_succ, i64_w, i32_w]
                 rfl
                refine pure_ (i := 15) (N := some 67) (v := ?_) (a' := ?_) #[true, true, true, true, true, true, true, true, true, true, true, true, true, true, true, true, false, false, false, false] rfl rfl (any_of HT_.out (by kernel_rfl)) (fun _ _ _ h => h) (Or.inl ⟨by rfl, ?_⟩) ?_ ?_
                rotate_left
                ·
                 intro w'
                 go_simp
                 with_reducible rfl
                rotate_left
                ·
                 simp only [Act.put, List.setIfInBounds_toArray, List.set_cons_zero, List.set_cons_succ, i64_w, i32_w]
                 rfl
                refine pure_ (i := 16) (N := some 68) (v := ?_) (a' := ?_) #[true, true, true, true, true, true, true, true, true, true, true, true, true, true, true, true, true, false, false, false] rfl rfl (any_of HT_.out (by kernel_rfl)) (fun _ _ _ h => h) (Or.inl ⟨by rfl, ?_⟩) ?_ ?_
                rotate_left
                ·
                 intro w'
                 go_simp
                 with_reducible rfl
                rotate_left
                ·
                 simp only [Act.put, List.setIfInBounds_toArray, List.set_cons_zero, List.set_cons_succ, i64_w, i32_w]
                 rfl
                refine one_ (i := 17) (N := some 9) #[true, true, true, true, true, true, true, true, true, true, true, true, true, true, true, true, true, true, false, false] rfl rfl (one_of HT_.out (by kernel_rfl)) (by decide) (fun K hK => ?_)
                refine box_step ?hg (N := 9) ?hd (cs := #[.int .i64 0, .int .i64 0]) (t := 95) ?hr ?_; (case hd => rfl); (case hg => rfl); (case hr => first | (go_simp; done) | (go_simp; rfl))
                intro gb718 hg w31 hbox hb
                have n0_ := Aside0.mk (blk_below (g := gb706) (o := .cells #[.int .i64 x707000_2, .int .i64 x707001_2] 95 (0, 0)) (by (with_reducible repeat (first | refine blk_drewN ?_ _ | refine blk_drew ?_ | refine blk_alloc ?_ _)); exact BK706.out) hb)
                have n1_ := Aside0.mk (blk_below (g := gb709) (o := .cells #[.int .i64 x710000_2, .int .i64 x710001_2] 95 (0, 0)) (by (with_reducible repeat (first | refine blk_drewN ?_ _ | refine blk_drew ?_ | refine blk_alloc ?_ _)); exact BK709.out) hb)
                have n2_ := Aside0.mk (below_step (by repeat (first | (with_reducible first | exact HB.out | apply below_alloc | apply pw_below_drewN | apply below_drew1 | refine below_set ?_ GE706.out | refine below_set ?_ GE709.out) | exact HB.out)) hb)
                have n3_ := Aside0.mk (hbox)
                have n4_ := Aside0.mk ((by rw [hg]; exact (below_size (by repeat (first | (with_reducible first | exact HB.out | apply below_alloc | apply pw_below_drewN | apply below_drew1 | refine below_set ?_ GE706.out | refine below_set ?_ GE709.out) | exact HB.out))) : w.heap.size ≤ gb718))
                have n5_ := Aside0.mk ((by rw [hg]; exact (below_size (by repeat (first | (with_reducible first | exact HB.out | apply below_alloc | apply pw_below_drewN | apply below_drew1 | refine below_set ?_ GE706.out | refine below_set ?_ GE709.out) | exact HB.out))) : w.heap.size ≤ gb718))
                have n6_ := Aside0.mk ((by rw [hg]; exact Nat.ne_of_lt (blk_lt (g := gb706) (o := .cells #[.int .i64 x707000_2, .int .i64 x707001_2] 95 (0, 0)) (by (with_reducible repeat (first | refine blk_drewN ?_ _ | refine blk_drew ?_ | refine blk_alloc ?_ _)); exact BK706.out)) : gb706 ≠ gb718))
                have n7_ := Aside0.mk ((by rw [hg]; exact Nat.ne_of_gt (blk_lt (g := gb706) (o := .cells #[.int .i64 x707000_2, .int .i64 x707001_2] 95 (0, 0)) (by (with_reducible repeat (first | refine blk_drewN ?_ _ | refine blk_drew ?_ | refine blk_alloc ?_ _)); exact BK706.out)) : gb718 ≠ gb706))
                have n8_ := Aside0.mk ((by rw [hg]; exact Nat.ne_of_lt (blk_lt (g := gb709) (o := .cells #[.int .i64 x710000_2, .int .i64 x710001_2] 95 (0, 0)) (by (with_reducible repeat (first | refine blk_drewN ?_ _ | refine blk_drew ?_ | refine blk_alloc ?_ _)); exact BK709.out)) : gb709 ≠ gb718))
                have n9_ := Aside0.mk ((by rw [hg]; exact Nat.ne_of_gt (blk_lt (g := gb709) (o := .cells #[.int .i64 x710000_2, .int .i64 x710001_2] 95 (0, 0)) (by (with_reducible repeat (first | refine blk_drewN ?_ _ | refine blk_drew ?_ | refine blk_alloc ?_ _)); exact BK709.out)) : gb718 ≠ gb709))
                clear BK706
                clear BK709
                clear HB
                have BK706 := n0_
                have BK709 := n1_
                have HB := n2_
                have BK718 := n3_
                have GW718 := n4_
                have GE718 := n5_
                have NB706_718 := n6_
                have NB718_706 := n7_
                have NB709_718 := n8_
                have NB718_709 := n9_
                clear n0_ n1_ n2_ n3_ n4_ n5_ n6_ n7_ n8_ n9_
                clear hb hbox hg
                refine hK.out _ _ ⟨((HB.out.cell (World.block_lt_of_cell? w _ hw713_0)).trans hw713_0), ((HB.out.cell (World.block_lt_of_cell? w _ hw713_1)).trans hw713_1), ((HB.out.cell (World.block_lt_of_cell? w _ hw714_0)).trans hw714_0), ((HB.out.cell (World.block_lt_of_cell? w _ hw714_1)).trans hw714_1)⟩ (fun hHeld => ?_)
                clear hK K
                refine norm_ (a' := ?_) ?_ ?_
                rotate_left
                ·
                 show Act.put _ (some 9) _ = _
                 simp only [Act.put, List.setIfInBounds_toArray, List.set_cons_zero, List.set_cons_succ, i64_w, i32_w]
                 rfl
                exact norm_ (by simp only [putAll, Act.put, List.setIfInBounds_toArray, List.set_cons_zero, List.set_cons_succ]) (hCont (gb718) _ ⟨hHeld, (by (with_reducible repeat (first | refine blk_drewN ?_ _ | refine blk_drew ?_ | refine blk_alloc ?_ _)); exact BK706.out), (by (with_reducible repeat (first | refine blk_drewN ?_ _ | refine blk_drew ?_ | refine blk_alloc ?_ _)); exact BK709.out), (by (with_reducible repeat (first | refine blk_drewN ?_ _ | refine blk_drew ?_ | refine blk_alloc ?_ _)); exact BK718.out), GW718.out, GE718.out, NB706_718.out, NB718_706.out, NB709_718.out, NB718_709.out, (by repeat (first | (with_reducible first | exact HB.out | apply below_alloc | apply pw_below_drewN | apply below_drew1 | refine below_set ?_ GE706.out | refine below_set ?_ GE709.out | refine below_set ?_ GE718.out) | exact HB.out))⟩)
               ·
                skip
                refine box_step ?hg (N := 9) ?hd (cs := #[.int .i64 0, .int .i64 0]) (t := 95) ?hr ?_; (case hd => rfl); (case hg => rfl); (case hr => first | (go_simp; done) | (go_simp; rfl))
                intro gb718 hg w30 hbox hb
                have n0_ := Aside0.mk (blk_below (g := gb706) (o := .cells #[.int .i64 x707000_2, .int .i64 x707001_2] 95 (0, 0)) (by (with_reducible repeat (first | refine blk_drewN ?_ _ | refine blk_drew ?_ | refine blk_alloc ?_ _)); exact BK706.out) hb)
                have n1_ := Aside0.mk (blk_below (g := gb709) (o := .cells #[.int .i64 x710000_2, .int .i64 x710001_2] 95 (0, 0)) (by (with_reducible repeat (first | refine blk_drewN ?_ _ | refine blk_drew ?_ | refine blk_alloc ?_ _)); exact BK709.out) hb)
                have n2_ := Aside0.mk (below_step (by repeat (first | (with_reducible first | exact HB.out | apply below_alloc | apply pw_below_drewN | apply below_drew1 | refine below_set ?_ GE706.out | refine below_set ?_ GE709.out) | exact HB.out)) hb)
                have n3_ := Aside0.mk (hbox)
                have n4_ := Aside0.mk ((by rw [hg]; exact (below_size (by repeat (first | (with_reducible first | exact HB.out | apply below_alloc | apply pw_below_drewN | apply below_drew1 | refine below_set ?_ GE706.out | refine below_set ?_ GE709.out) | exact HB.out))) : w.heap.size ≤ gb718))
                have n5_ := Aside0.mk ((by rw [hg]; exact (below_size (by repeat (first | (with_reducible first | exact HB.out | apply below_alloc | apply pw_below_drewN | apply below_drew1 | refine below_set ?_ GE706.out | refine below_set ?_ GE709.out) | exact HB.out))) : w.heap.size ≤ gb718))
                have n6_ := Aside0.mk ((by rw [hg]; exact Nat.ne_of_lt (blk_lt (g := gb706) (o := .cells #[.int .i64 x707000_2, .int .i64 x707001_2] 95 (0, 0)) (by (with_reducible repeat (first | refine blk_drewN ?_ _ | refine blk_drew ?_ | refine blk_alloc ?_ _)); exact BK706.out)) : gb706 ≠ gb718))
                have n7_ := Aside0.mk ((by rw [hg]; exact Nat.ne_of_gt (blk_lt (g := gb706) (o := .cells #[.int .i64 x707000_2, .int .i64 x707001_2] 95 (0, 0)) (by (with_reducible repeat (first | refine blk_drewN ?_ _ | refine blk_drew ?_ | refine blk_alloc ?_ _)); exact BK706.out)) : gb718 ≠ gb706))
                have n8_ := Aside0.mk ((by rw [hg]; exact Nat.ne_of_lt (blk_lt (g := gb709) (o := .cells #[.int .i64 x710000_2, .int .i64 x710001_2] 95 (0, 0)) (by (with_reducible repeat (first | refine blk_drewN ?_ _ | refine blk_drew ?_ | refine blk_alloc ?_ _)); exact BK709.out)) : gb709 ≠ gb718))
                have n9_ := Aside0.mk ((by rw [hg]; exact Nat.ne_of_gt (blk_lt (g := gb709) (o := .cells #[.int .i64 x710000_2, .int .i64 x710001_2] 95 (0, 0)) (by (with_reducible repeat (first | refine blk_drewN ?_ _ | refine blk_drew ?_ | refine blk_alloc ?_ _)); exact BK709.out)) : gb718 ≠ gb709))
                clear BK706
                clear BK709
                clear HB
                have BK706 := n0_
                have BK709 := n1_
                have HB := n2_
                have BK718 := n3_
                have GW718 := n4_
                have GE718 := n5_
                have NB706_718 := n6_
                have NB718_706 := n7_
                have NB709_718 := n8_
                have NB718_709 := n9_
                clear n0_ n1_ n2_ n3_ n4_ n5_ n6_ n7_ n8_ n9_
                clear hb hbox hg
                refine hK.out _ _ ⟨((HB.out.cell (World.block_lt_of_cell? w _ hw713_0)).trans hw713_0), ((HB.out.cell (World.block_lt_of_cell? w _ hw713_1)).trans hw713_1), ((HB.out.cell (World.block_lt_of_cell? w _ hw714_0)).trans hw714_0), ((HB.out.cell (World.block_lt_of_cell? w _ hw714_1)).trans hw714_1)⟩ (fun hHeld => ?_)
                clear hK K
                refine norm_ (a' := ?_) ?_ ?_
                rotate_left
                ·
                 show Act.put _ (some 9) _ = _
                 simp only [Act.put, List.setIfInBounds_toArray, List.set_cons_zero, List.set_cons_succ, i64_w, i32_w]
                 rfl
                refine one_ (i := 13) (N := some 66) #[true, true, true, true, true, true, true, true, true, true, true, true, true, true, false, false, false, true, false, false] rfl rfl (one_of HT_.out (by kernel_rfl)) (by decide) (fun K hK => ?_)
                refine goes_ Try.func122 (by kernel_rfl) rfl #[.int .i64 (wrap64 ((wrap64 (x8_18 - ((rd_T151 l0 x7_2).f0))) * 5000)), .int .i64 ((rd_T151 l0 x7_2).f1)] (by rfl) rfl rfl (by (try simp only [List.map_toArray, List.map_cons, List.map_nil]); first | done | rfl | (simp only [List.length_drop, List.length_take]; rfl)) ?_
                with_reducible refine (spec_MakeRatio.calls kj18 (wrap64 ((wrap64 (x8_18 - ((rd_T151 l0 x7_2).f0))) * 5000)) ((rd_T151 l0 x7_2).f1) t715 t716 t717 _ A26.out).mono ?_
                rintro e w31 ⟨rfl, hb⟩
                refine ⟨_, rfl, ?_⟩
                have n0_ := Aside0.mk (blk_below (g := gb706) (o := .cells #[.int .i64 x707000_2, .int .i64 x707001_2] 95 (0, 0)) (by (with_reducible repeat (first | refine blk_drewN ?_ _ | refine blk_drew ?_ | refine blk_alloc ?_ _)); exact BK706.out) hb)
                have n1_ := Aside0.mk (blk_below (g := gb709) (o := .cells #[.int .i64 x710000_2, .int .i64 x710001_2] 95 (0, 0)) (by (with_reducible repeat (first | refine blk_drewN ?_ _ | refine blk_drew ?_ | refine blk_alloc ?_ _)); exact BK709.out) hb)
                have n2_ := Aside0.mk (blk_below (g := gb718) (o := .cells #[.int .i64 0, .int .i64 0] 95 (0, 0)) (by (with_reducible repeat (first | refine blk_drewN ?_ _ | refine blk_drew ?_ | refine blk_alloc ?_ _)); exact BK718.out) hb)
                have n3_ := Aside0.mk (below_step (by repeat (first | (with_reducible first | exact HB.out | apply below_alloc | apply pw_below_drewN | apply below_drew1 | refine below_set ?_ GE706.out | refine below_set ?_ GE709.out | refine below_set ?_ GE718.out) | exact HB.out)) hb)
                clear BK706
                clear BK709
                clear BK718
                clear HB
                have BK706 := n0_
                have BK709 := n1_
                have BK718 := n2_
                have HB := n3_
                clear n0_ n1_ n2_ n3_
                (try clear hb)
                (try clear hb2)
                (try clear hk)
                (try clear hi)
                refine hK.out _ _ ⟨((HB.out.cell (World.block_lt_of_cell? w _ hw713_0)).trans hw713_0), ((HB.out.cell (World.block_lt_of_cell? w _ hw713_1)).trans hw713_1), ((HB.out.cell (World.block_lt_of_cell? w _ hw714_0)).trans hw714_0), ((HB.out.cell (World.block_lt_of_cell? w _ hw714_1)).trans hw714_1)⟩ (fun hHeld => ?_)
                clear hK K
                refine norm_ (a' := ?_) ?_ ?_
                rotate_left
                ·
                 show Act.put _ (some 66) _ = _
                 simp only [Act.put, List.setIfInBounds_toArray, List.set_cons_zero, List.set_cons_succ, i64_w, i32_w]
                 rfl
                refine pure_ (i := 14) (N := some 52) (v := ?_) (a' := ?_) #[true, true, true, true, true, true, true, true, true, true, true, true, true, true, true, false, false, true, false, false] rfl rfl (any_of HT_.out (by kernel_rfl)) (fun _ _ _ h => h) (Or.inl ⟨by rfl, ?_⟩) ?_ ?_
                rotate_left
                ·
                 intro w'
                 go_simp
                 with_reducible rfl
                rotate_left
                ·
                 simp only [Act.put, List.setIfInBounds_toArray, List.set_cons_zero, List.set_cons_succ, i64_w, i32_w]
                 rfl
                refine pure_ (i := 15) (N := some 67) (v := ?_) (a' := ?_) #[true, true, true, true, true, true, true, true, true, true, true, true, true, true, true, true, false, true, false, false] rfl rfl (any_of HT_.out (by kernel_rfl)) (fun _ _ _ h => h) (Or.inl ⟨by rfl, ?_⟩) ?_ ?_
                rotate_left
                ·
                 intro w'
                 go_simp
                 with_reducible rfl
                rotate_left
                ·
                 simp only [Act.put, List.setIfInBounds_toArray, List.set_cons_zero, List.set_cons_succ, i64_w, i32_w]
                 rfl
                refine pure_ (i := 16) (N := some 68) (v := ?_) (a' := ?_) #[true, true, true, true, true, true, true, true, true, true, true, true, true, true, true, true, true, true, false, false] rfl rfl (any_of HT_.out (by kernel_rfl)) (fun _ _ _ h => h) (Or.inl ⟨by rfl, ?_⟩) ?_ ?_
                rotate_left
                ·
                 intro w'
                 go_simp
                 with_reducible rfl
                rotate_left
                ·
                 simp only [Act.put, List.setIfInBounds_toArray, List.set_cons_zero, List.set_cons_succ, i64_w, i32_w]
                 rfl
                exact norm_ (by simp only [putAll, Act.put, List.setIfInBounds_toArray, List.set_cons_zero, List.set_cons_succ]) (hCont (gb718) _ ⟨hHeld, (by (with_reducible repeat (first | refine blk_drewN ?_ _ | refine blk_drew ?_ | refine blk_alloc ?_ _)); exact BK706.out), (by (with_reducible repeat (first | refine blk_drewN ?_ _ | refine blk_drew ?_ | refine blk_alloc ?_ _)); exact BK709.out), (by (with_reducible repeat (first | refine blk_drewN ?_ _ | refine blk_drew ?_ | refine blk_alloc ?_ _)); exact BK718.out), GW718.out, GE718.out, NB706_718.out, NB718_706.out, NB709_718.out, NB718_709.out, (by repeat (first | (with_reducible first | exact HB.out | apply below_alloc | apply pw_below_drewN | apply below_drew1 | refine below_set ?_ GE706.out | refine below_set ?_ GE709.out | refine below_set ?_ GE718.out) | exact HB.out))⟩)
              rintro gb718 w32 ⟨hS_, h0_, h1_, h2_, h3_, h4_, h5_, h6_, h7_, h8_, h9_⟩
              have n0_ : Aside0 (w32.heap[gb706]? = some (.cells #[.int .i64 x707000_2, .int .i64 x707001_2] 95 (0, 0))) := ⟨h0_⟩
              have n1_ : Aside0 (w32.heap[gb709]? = some (.cells #[.int .i64 x710000_2, .int .i64 x710001_2] 95 (0, 0))) := ⟨h1_⟩
              have n2_ : Aside0 (w32.heap[gb718]? = some (.cells #[.int .i64 0, .int .i64 0] 95 (0, 0))) := ⟨h2_⟩
              have n3_ : Aside0 (w.heap.size ≤ gb718) := ⟨h3_⟩
              have n4_ : Aside0 (w.heap.size ≤ gb718) := ⟨h4_⟩
              have n5_ : Aside0 (gb706 ≠ gb718) := ⟨h5_⟩
              have n6_ : Aside0 (gb718 ≠ gb706) := ⟨h6_⟩
              have n7_ : Aside0 (gb709 ≠ gb718) := ⟨h7_⟩
              have n8_ : Aside0 (gb718 ≠ gb709) := ⟨h8_⟩
              have n9_ : Aside0 (Below w.heap.size w w32) := ⟨h9_⟩
              clear BK706
              clear BK709
              clear HB
              clear h0_ h1_ h2_ h3_ h4_ h5_ h6_ h7_ h8_ h9_
              have BK706 := n0_
              have BK709 := n1_
              have BK718 := n2_
              have GW718 := n3_
              have GE718 := n4_
              have NB706_718 := n5_
              have NB718_706 := n6_
              have NB709_718 := n7_
              have NB718_709 := n8_
              have HB := n9_
              clear n0_ n1_ n2_ n3_ n4_ n5_ n6_ n7_ n8_ n9_
              have hHeld : w32.cell? (ad713.add ((x7_2).toNat * 2)) = some (.int .i64 ((rd_T151 l0 x7_2).f0)) ∧ w32.cell? ⟨(ad713.add ((x7_2).toNat * 2)).block, (ad713.add ((x7_2).toNat * 2)).off + 1, none⟩ = some (.int .i64 ((rd_T151 l0 x7_2).f1)) ∧ w32.cell? (ad713.add ((x7_2).toNat * 2)) = some (.int .i64 ((rd_T151 l0 x7_2).f0)) ∧ w32.cell? ⟨(ad713.add ((x7_2).toNat * 2)).block, (ad713.add ((x7_2).toNat * 2)).off + 1, none⟩ = some (.int .i64 ((rd_T151 l0 x7_2).f1)) := hS_
              refine norm_ (a' := ?_) ?_ ?_
              rotate_left
              ·
               simp only [putAll, Act.put, List.setIfInBounds_toArray, List.set_cons_zero, List.set_cons_succ]
               rfl
              refine one_ (i := 18) (N := none) #[true, true, true, true, true, true, true, true, true, true, true, true, true, true, true, true, true, true, true, false] rfl rfl (one_of HT_.out (by kernel_rfl)) (by decide) (fun K hK => ?_)
              have hs33 : w32.cell? ⟨gb718, 0, none⟩ = some (.int .i64 0) := (blk_cell BK718.out 0).trans rfl
              have hfs33 := blk_frozen BK718.out 0
              have hns33_0 := NB706_718.out
              have hns33_1 := NB709_718.out
              have hms33_0 := NB718_706.out
              have hms33_1 := NB718_709.out
              have hs34 : w32.cell? ⟨gb718, 1, none⟩ = some (.int .i64 0) := (blk_cell BK718.out 1).trans rfl
              have hfs34 := blk_frozen BK718.out 1
              have hns34_0 := NB706_718.out
              have hns34_1 := NB709_718.out
              have hms34_0 := NB718_706.out
              have hms34_1 := NB718_709.out
              refine skip_ (w1 := ?_) (by rfl) rfl ?_ ?_
              rotate_left
              ·
               go_simp
               rfl
              refine hK.out _ _ ⟨((cell_far (p := ⟨gb718, _, none⟩) (by first | exact Nat.ne_of_lt (Nat.lt_of_lt_of_le (by have := World.block_lt_of_cell? _ _ hw713_0; first | rwa [add_block] at this | exact this) GW718.out) | (rw [add_block]; exact Nat.ne_of_lt (Nat.lt_of_lt_of_le (by have := World.block_lt_of_cell? _ _ hw713_0; first | rwa [add_block] at this | exact this) GW718.out)) | (show (Addr.add _ _).block ≠ _; rw [add_block]; exact Nat.ne_of_lt (Nat.lt_of_lt_of_le (by have := World.block_lt_of_cell? _ _ hw713_0; first | rwa [add_block] at this | exact this) GW718.out)) | (dsimp only; exact Nat.ne_of_lt (Nat.lt_of_lt_of_le (by have := World.block_lt_of_cell? _ _ hw713_0; first | rwa [add_block] at this | exact this) GW718.out))) _).trans (((cell_far (p := ⟨gb718, _, none⟩) (by first | exact Nat.ne_of_lt (Nat.lt_of_lt_of_le (by have := World.block_lt_of_cell? _ _ hw713_0; first | rwa [add_block] at this | exact this) GW718.out) | (rw [add_block]; exact Nat.ne_of_lt (Nat.lt_of_lt_of_le (by have := World.block_lt_of_cell? _ _ hw713_0; first | rwa [add_block] at this | exact this) GW718.out)) | (show (Addr.add _ _).block ≠ _; rw [add_block]; exact Nat.ne_of_lt (Nat.lt_of_lt_of_le (by have := World.block_lt_of_cell? _ _ hw713_0; first | rwa [add_block] at this | exact this) GW718.out)) | (dsimp only; exact Nat.ne_of_lt (Nat.lt_of_lt_of_le (by have := World.block_lt_of_cell? _ _ hw713_0; first | rwa [add_block] at this | exact this) GW718.out))) _).trans (hHeld.1)))), ((cell_far (p := ⟨gb718, _, none⟩) (by first | exact Nat.ne_of_lt (Nat.lt_of_lt_of_le (by have := World.block_lt_of_cell? _ _ hw713_1; first | rwa [add_block] at this | exact this) GW718.out) | (rw [add_block]; exact Nat.ne_of_lt (Nat.lt_of_lt_of_le (by have := World.block_lt_of_cell? _ _ hw713_1; first | rwa [add_block] at this | exact this) GW718.out)) | (show (Addr.add _ _).block ≠ _; rw [add_block]; exact Nat.ne_of_lt (Nat.lt_of_lt_of_le (by have := World.block_lt_of_cell? _ _ hw713_1; first | rwa [add_block] at this | exact this) GW718.out)) | (dsimp only; exact Nat.ne_of_lt (Nat.lt_of_lt_of_le (by have := World.block_lt_of_cell? _ _ hw713_1; first | rwa [add_block] at this | exact this) GW718.out))) _).trans (((cell_far (p := ⟨gb718, _, none⟩) (by first | exact Nat.ne_of_lt (Nat.lt_of_lt_of_le (by have := World.block_lt_of_cell? _ _ hw713_1; first | rwa [add_block] at this | exact this) GW718.out) | (rw [add_block]; exact Nat.ne_of_lt (Nat.lt_of_lt_of_le (by have := World.block_lt_of_cell? _ _ hw713_1; first | rwa [add_block] at this | exact this) GW718.out)) | (show (Addr.add _ _).block ≠ _; rw [add_block]; exact Nat.ne_of_lt (Nat.lt_of_lt_of_le (by have := World.block_lt_of_cell? _ _ hw713_1; first | rwa [add_block] at this | exact this) GW718.out)) | (dsimp only; exact Nat.ne_of_lt (Nat.lt_of_lt_of_le (by have := World.block_lt_of_cell? _ _ hw713_1; first | rwa [add_block] at this | exact this) GW718.out))) _).trans (hHeld.2.1)))), ((cell_far (p := ⟨gb718, _, none⟩) (by first | exact Nat.ne_of_lt (Nat.lt_of_lt_of_le (by have := World.block_lt_of_cell? _ _ hw714_0; first | rwa [add_block] at this | exact this) GW718.out) | (rw [add_block]; exact Nat.ne_of_lt (Nat.lt_of_lt_of_le (by have := World.block_lt_of_cell? _ _ hw714_0; first | rwa [add_block] at this | exact this) GW718.out)) | (show (Addr.add _ _).block ≠ _; rw [add_block]; exact Nat.ne_of_lt (Nat.lt_of_lt_of_le (by have := World.block_lt_of_cell? _ _ hw714_0; first | rwa [add_block] at this | exact this) GW718.out)) | (dsimp only; exact Nat.ne_of_lt (Nat.lt_of_lt_of_le (by have := World.block_lt_of_cell? _ _ hw714_0; first | rwa [add_block] at this | exact this) GW718.out))) _).trans (((cell_far (p := ⟨gb718, _, none⟩) (by first | exact Nat.ne_of_lt (Nat.lt_of_lt_of_le (by have := World.block_lt_of_cell? _ _ hw714_0; first | rwa [add_block] at this | exact this) GW718.out) | (rw [add_block]; exact Nat.ne_of_lt (Nat.lt_of_lt_of_le (by have := World.block_lt_of_cell? _ _ hw714_0; first | rwa [add_block] at this | exact this) GW718.out)) | (show (Addr.add _ _).block ≠ _; rw [add_block]; exact Nat.ne_of_lt (Nat.lt_of_lt_of_le (by have := World.block_lt_of_cell? _ _ hw714_0; first | rwa [add_block] at this | exact this) GW718.out)) | (dsimp only; exact Nat.ne_of_lt (Nat.lt_of_lt_of_le (by have := World.block_lt_of_cell? _ _ hw714_0; first | rwa [add_block] at this | exact this) GW718.out))) _).trans (hHeld.2.2.1)))), ((cell_far (p := ⟨gb718, _, none⟩) (by first | exact Nat.ne_of_lt (Nat.lt_of_lt_of_le (by have := World.block_lt_of_cell? _ _ hw714_1; first | rwa [add_block] at this | exact this) GW718.out) | (rw [add_block]; exact Nat.ne_of_lt (Nat.lt_of_lt_of_le (by have := World.block_lt_of_cell? _ _ hw714_1; first | rwa [add_block] at this | exact this) GW718.out)) | (show (Addr.add _ _).block ≠ _; rw [add_block]; exact Nat.ne_of_lt (Nat.lt_of_lt_of_le (by have := World.block_lt_of_cell? _ _ hw714_1; first | rwa [add_block] at this | exact this) GW718.out)) | (dsimp only; exact Nat.ne_of_lt (Nat.lt_of_lt_of_le (by have := World.block_lt_of_cell? _ _ hw714_1; first | rwa [add_block] at this | exact this) GW718.out))) _).trans (((cell_far (p := ⟨gb718, _, none⟩) (by first | exact Nat.ne_of_lt (Nat.lt_of_lt_of_le (by have := World.block_lt_of_cell? _ _ hw714_1; first | rwa [add_block] at this | exact this) GW718.out) | (rw [add_block]; exact Nat.ne_of_lt (Nat.lt_of_lt_of_le (by have := World.block_lt_of_cell? _ _ hw714_1; first | rwa [add_block] at this | exact this) GW718.out)) | (show (Addr.add _ _).block ≠ _; rw [add_block]; exact Nat.ne_of_lt (Nat.lt_of_lt_of_le (by have := World.block_lt_of_cell? _ _ hw714_1; first | rwa [add_block] at this | exact this) GW718.out)) | (dsimp only; exact Nat.ne_of_lt (Nat.lt_of_lt_of_le (by have := World.block_lt_of_cell? _ _ hw714_1; first | rwa [add_block] at this | exact this) GW718.out))) _).trans (hHeld.2.2.2))))⟩ (fun hHeld => ?_)
              clear hK K
              refine pure_ (i := 19) (N := some 10) (v := ?_) (a' := ?_) #[true, true, true, true, true, true, true, true, true, true, true, true, true, true, true, true, true, true, true, true] rfl rfl (any_of HT_.out (by kernel_rfl)) (fun _ _ _ h => h) (Or.inl ⟨by rfl, ?_⟩) ?_ ?_
              rotate_left
              ·
               intro w'
               go_simp
               with_reducible rfl
              rotate_left
              ·
               simp only [Act.put, List.setIfInBounds_toArray, List.set_cons_zero, List.set_cons_succ, i64_w, i32_w]
               rfl
              refine done_ (done_of HT_.out (by kernel_rfl)) ?_
              have hnb35 := NB709_706.out
              have hnc35 := NB706_709.out
              have hnb36 := NB709_718.out
              have hnc36 := NB718_709.out
              have hcz37_0 : w32.cell? ⟨gb709, 0, none⟩ = some (.int .i64 x710000_2) := (blk_cell BK709.out 0).trans rfl
              have hcz37_1 : w32.cell? ⟨gb709, 1, none⟩ = some (.int .i64 x710001_2) := (blk_cell BK709.out 1).trans rfl
              have hfz37_0 := blk_frozen BK709.out 0
              have hfz37_1 := blk_frozen BK709.out 1
              have hnb38 := NB718_706.out
              have hnc38 := NB706_718.out
              have hcz39_0 : w32.cell? ⟨gb718, 0, none⟩ = some (.int .i64 0) := (blk_cell BK718.out 0).trans rfl
              have hcz39_1 : w32.cell? ⟨gb718, 1, none⟩ = some (.int .i64 0) := (blk_cell BK718.out 1).trans rfl
              have hfz39_0 := blk_frozen BK718.out 0
              have hfz39_1 := blk_frozen BK718.out 1
              try go_wp2_with (first | ((with_reducible refine gate_callee (f := 145) rfl ?_); refine goesL_ (some 72) rfl rfl Try.func145 (by kernel_rfl) rfl #[.agg #[.int .i64 x710000_2, .int .i64 x710001_2], .agg #[.int .i64 t715, .int .i64 t716]] rfl (by (try simp only [List.map_toArray, List.map_cons, List.map_nil]); first | done | rfl | (simp only [List.length_drop, List.length_take]; rfl)) ?_; (with_reducible refine (spec_AddRatio.calls kj18 x710000_2 x710001_2 t715 t716 t719 t720 true _ A27.out).mono ?_); rintro e w40 ⟨rfl, hb⟩; refine ⟨_, rfl, ?_⟩; have n0_ := Aside0.mk (blk_below (g := gb706) (o := .cells #[.int .i64 x707000_2, .int .i64 x707001_2] 95 (0, 0)) (by (with_reducible repeat (first | refine blk_drewN ?_ _ | refine blk_drew ?_ | refine blk_alloc ?_ _)); refine blk_far ?_ NB706_718.out _; (with_reducible repeat (first | refine blk_drewN ?_ _ | refine blk_drew ?_ | refine blk_alloc ?_ _)); refine blk_far ?_ NB706_718.out _; (with_reducible repeat (first | refine blk_drewN ?_ _ | refine blk_drew ?_ | refine blk_alloc ?_ _)); exact BK706.out) hb); have n1_ := Aside0.mk (blk_below (g := gb709) (o := .cells #[.int .i64 x710000_2, .int .i64 x710001_2] 95 (0, 0)) (by (with_reducible repeat (first | refine blk_drewN ?_ _ | refine blk_drew ?_ | refine blk_alloc ?_ _)); refine blk_far ?_ NB709_718.out _; (with_reducible repeat (first | refine blk_drewN ?_ _ | refine blk_drew ?_ | refine blk_alloc ?_ _)); refine blk_far ?_ NB709_718.out _; (with_reducible repeat (first | refine blk_drewN ?_ _ | refine blk_drew ?_ | refine blk_alloc ?_ _)); exact BK709.out) hb); have n2_ := Aside0.mk (blk_below (g := gb718) (o := .cells #[.int .i64 t715, .int .i64 t716] 95 (0, 0)) (by (with_reducible repeat (first | refine blk_drewN ?_ _ | refine blk_drew ?_ | refine blk_alloc ?_ _)); refine blk_put (cs := #[.int .i64 t715, .int .i64 0]) ?_ 1 _ rfl; (with_reducible repeat (first | refine blk_drewN ?_ _ | refine blk_drew ?_ | refine blk_alloc ?_ _)); refine blk_put (cs := #[.int .i64 0, .int .i64 0]) ?_ 0 _ rfl; (with_reducible repeat (first | refine blk_drewN ?_ _ | refine blk_drew ?_ | refine blk_alloc ?_ _)); exact BK718.out) hb); have n3_ := Aside0.mk (below_step (by repeat (first | (with_reducible first | exact HB.out | apply below_alloc | apply pw_below_drewN | apply below_drew1 | refine below_set ?_ GE706.out | refine below_set ?_ GE709.out | refine below_set ?_ GE718.out) | exact HB.out)) hb); clear BK706; clear BK709; clear BK718; clear HB; have BK706 := n0_; have BK709 := n1_; have BK718 := n2_; have HB := n3_; clear n0_ n1_ n2_ n3_; (try clear hb); (try clear hb2); (try clear hk); (try clear hi)) | ((with_reducible refine gate_dst (N := 11) rfl ?_); refine box_event ?hg (N := 11) ?hd (cs := #[.int .i64 0, .int .i64 0]) (t := 95) ?hr ?_; (case hd => rfl); (case hg => rfl); (case hr => first | (go_simp; done) | (go_simp; rfl)); intro gb722 hg w41 hbox hb; have n0_ := Aside0.mk (blk_below (g := gb706) (o := .cells #[.int .i64 x707000_2, .int .i64 x707001_2] 95 (0, 0)) (by (with_reducible repeat (first | refine blk_drewN ?_ _ | refine blk_drew ?_ | refine blk_alloc ?_ _)); exact BK706.out) hb); have n1_ := Aside0.mk (blk_below (g := gb709) (o := .cells #[.int .i64 x710000_2, .int .i64 x710001_2] 95 (0, 0)) (by (with_reducible repeat (first | refine blk_drewN ?_ _ | refine blk_drew ?_ | refine blk_alloc ?_ _)); exact BK709.out) hb); have n2_ := Aside0.mk (blk_below (g := gb718) (o := .cells #[.int .i64 t715, .int .i64 t716] 95 (0, 0)) (by (with_reducible repeat (first | refine blk_drewN ?_ _ | refine blk_drew ?_ | refine blk_alloc ?_ _)); exact BK718.out) hb); have n3_ := Aside0.mk (below_step (by repeat (first | (with_reducible first | exact HB.out | apply below_alloc | apply pw_below_drewN | apply below_drew1 | refine below_set ?_ GE706.out | refine below_set ?_ GE709.out | refine below_set ?_ GE718.out) | exact HB.out)) hb); have n4_ := Aside0.mk (hbox); have n5_ := Aside0.mk ((by rw [hg]; exact (below_size (by repeat (first | (with_reducible first | exact HB.out | apply below_alloc | apply pw_below_drewN | apply below_drew1 | refine below_set ?_ GE706.out | refine below_set ?_ GE709.out | refine below_set ?_ GE718.out) | exact HB.out))) : w.heap.size ≤ gb722)); have n6_ := Aside0.mk ((by rw [hg]; exact (below_size (by repeat (first | (with_reducible first | exact HB.out | apply below_alloc | apply pw_below_drewN | apply below_drew1 | refine below_set ?_ GE706.out | refine below_set ?_ GE709.out | refine below_set ?_ GE718.out) | exact HB.out))) : w.heap.size ≤ gb722)); have n7_ := Aside0.mk ((by rw [hg]; exact Nat.ne_of_lt (blk_lt (g := gb706) (o := .cells #[.int .i64 x707000_2, .int .i64 x707001_2] 95 (0, 0)) (by (with_reducible repeat (first | refine blk_drewN ?_ _ | refine blk_drew ?_ | refine blk_alloc ?_ _)); exact BK706.out)) : gb706 ≠ gb722)); have n8_ := Aside0.mk ((by rw [hg]; exact Nat.ne_of_gt (blk_lt (g := gb706) (o := .cells #[.int .i64 x707000_2, .int .i64 x707001_2] 95 (0, 0)) (by (with_reducible repeat (first | refine blk_drewN ?_ _ | refine blk_drew ?_ | refine blk_alloc ?_ _)); exact BK706.out)) : gb722 ≠ gb706)); have n9_ := Aside0.mk ((by rw [hg]; exact Nat.ne_of_lt (blk_lt (g := gb709) (o := .cells #[.int .i64 x710000_2, .int .i64 x710001_2] 95 (0, 0)) (by (with_reducible repeat (first | refine blk_drewN ?_ _ | refine blk_drew ?_ | refine blk_alloc ?_ _)); exact BK709.out)) : gb709 ≠ gb722)); have n10_ := Aside0.mk ((by rw [hg]; exact Nat.ne_of_gt (blk_lt (g := gb709) (o := .cells #[.int .i64 x710000_2, .int .i64 x710001_2] 95 (0, 0)) (by (with_reducible repeat (first | refine blk_drewN ?_ _ | refine blk_drew ?_ | refine blk_alloc ?_ _)); exact BK709.out)) : gb722 ≠ gb709)); have n11_ := Aside0.mk ((by rw [hg]; exact Nat.ne_of_lt (blk_lt (g := gb718) (o := .cells #[.int .i64 t715, .int .i64 t716] 95 (0, 0)) (by (with_reducible repeat (first | refine blk_drewN ?_ _ | refine blk_drew ?_ | refine blk_alloc ?_ _)); exact BK718.out)) : gb718 ≠ gb722)); have n12_ := Aside0.mk ((by rw [hg]; exact Nat.ne_of_gt (blk_lt (g := gb718) (o := .cells #[.int .i64 t715, .int .i64 t716] 95 (0, 0)) (by (with_reducible repeat (first | refine blk_drewN ?_ _ | refine blk_drew ?_ | refine blk_alloc ?_ _)); exact BK718.out)) : gb722 ≠ gb718)); clear BK706; clear BK709; clear BK718; clear HB; have BK706 := n0_; have BK709 := n1_; have BK718 := n2_; have HB := n3_; have BK722 := n4_; have GW722 := n5_; have GE722 := n6_; have NB706_722 := n7_; have NB722_706 := n8_; have NB709_722 := n9_; have NB722_709 := n10_; have NB718_722 := n11_; have NB722_718 := n12_; clear n0_ n1_ n2_ n3_ n4_ n5_ n6_ n7_ n8_ n9_ n10_ n11_ n12_; clear hb hbox hg; have hnb42 := NB722_706.out; have hnc42 := NB706_722.out; have hnb43 := NB722_709.out; have hnc43 := NB709_722.out; have hnb44 := NB722_718.out; have hnc44 := NB718_722.out; have hcz45_0 : w41.cell? ⟨gb722, 0, none⟩ = some (.int .i64 0) := (blk_cell BK722.out 0).trans rfl; have hcz45_1 : w41.cell? ⟨gb722, 1, none⟩ = some (.int .i64 0) := (blk_cell BK722.out 1).trans rfl; have hfz45_0 := blk_frozen BK722.out 0; have hfz45_1 := blk_frozen BK722.out 1; have hcz46_0 : w41.cell? ⟨gb709, 0, none⟩ = some (.int .i64 x710000_2) := (blk_cell BK709.out 0).trans rfl; have hcz46_1 : w41.cell? ⟨gb709, 1, none⟩ = some (.int .i64 x710001_2) := (blk_cell BK709.out 1).trans rfl; have hfz46_0 := blk_frozen BK709.out 0; have hfz46_1 := blk_frozen BK709.out 1))
              go_roundg kj18
              case measure => have := HJ2.out; have := HK2.out; have := HJ14.out; have := HJ18.out; omega
              case rel => exact ⟨(wrap64 (x7_2 + 1)), (x707000_2), (x707001_2), (t719), (t720), (by first | rfl | (simp; done) | (simp [*]; done)), H', ⟨by have := HJ2.out; have := HK2.out; have := HJ14.out; have := HJ18.out; omega⟩, ⟨by (with_reducible repeat (first | refine blk_drewN ?_ _ | refine blk_drew ?_ | refine blk_alloc ?_ _)); refine blk_far ?_ NB706_709.out _; (with_reducible repeat (first | refine blk_drewN ?_ _ | refine blk_drew ?_ | refine blk_alloc ?_ _)); refine blk_far ?_ NB706_709.out _; (with_reducible repeat (first | refine blk_drewN ?_ _ | refine blk_drew ?_ | refine blk_alloc ?_ _)); refine blk_far ?_ NB706_722.out _; (with_reducible repeat (first | refine blk_drewN ?_ _ | refine blk_drew ?_ | refine blk_alloc ?_ _)); refine blk_far ?_ NB706_722.out _; (with_reducible repeat (first | refine blk_drewN ?_ _ | refine blk_drew ?_ | refine blk_alloc ?_ _)); exact BK706.out⟩, ⟨by (with_reducible repeat (first | refine blk_drewN ?_ _ | refine blk_drew ?_ | refine blk_alloc ?_ _)); refine blk_put (cs := #[.int .i64 t719, .int .i64 x710001_2]) ?_ 1 _ rfl; (with_reducible repeat (first | refine blk_drewN ?_ _ | refine blk_drew ?_ | refine blk_alloc ?_ _)); refine blk_put (cs := #[.int .i64 x710000_2, .int .i64 x710001_2]) ?_ 0 _ rfl; (with_reducible repeat (first | refine blk_drewN ?_ _ | refine blk_drew ?_ | refine blk_alloc ?_ _)); refine blk_far ?_ NB709_722.out _; (with_reducible repeat (first | refine blk_drewN ?_ _ | refine blk_drew ?_ | refine blk_alloc ?_ _)); refine blk_far ?_ NB709_722.out _; (with_reducible repeat (first | refine blk_drewN ?_ _ | refine blk_drew ?_ | refine blk_alloc ?_ _)); exact BK709.out⟩, ⟨by repeat (first | (with_reducible first | exact HB.out | apply below_alloc | apply pw_below_drewN | apply below_drew1 | refine below_set ?_ GE706.out | refine below_set ?_ GE709.out | refine below_set ?_ GE718.out | refine below_set ?_ GE722.out) | exact HB.out)⟩⟩
             ·
              replace c28 := Bool.eq_false_iff.mpr c28
              subst c28
              rw [if_neg (show ¬ (false = true) by decide)] at H
              simp only [Option.some.injEq, Prod.mk.injEq] at H
              obtain ⟨rfl, rfl, rfl⟩ := H
              try go_wp2
              have n0_ := Aside0.mk (blk_drew BK706.out)
              have n1_ := Aside0.mk (blk_drew BK709.out)
              have n2_ := Aside0.mk (below_drew1 HB.out)
              clear BK706
              clear BK709
              clear HB
              have BK706 := n0_
              have BK709 := n1_
              have HB := n2_
              clear n0_ n1_ n2_
              have p713 : 0 ≤ (x7_2 : Int) := of_decide_eq_true (by first | (with_reducible assumption) | assumption)
              have q713 : x7_2 < (l0.length : Int) := of_decide_eq_true (by first | (with_reducible assumption) | assumption)
              obtain ⟨ad713, e713, hx713_0, hx713_1⟩ := at_T151 HR0.out x7_2 p713 q713
              have hw713_1 := hx713_1
              have hw713_0 := hx713_0
              cases e713
              replace hx713_0 := (HB.out.cell (World.block_lt_of_cell? w _ hx713_0)).trans hx713_0
              replace hx713_1 := (HB.out.cell (World.block_lt_of_cell? w _ hx713_1)).trans hx713_1
              replace p713 := eq_true p713
              replace q713 := eq_true q713
              have p714 : 0 ≤ (x7_2 : Int) := of_decide_eq_true (by first | (with_reducible assumption) | assumption)
              have q714 : x7_2 < (l0.length : Int) := of_decide_eq_true (by first | (with_reducible assumption) | assumption)
              obtain ⟨ad714, e714, hx714_0, hx714_1⟩ := at_T151 HR0.out x7_2 p714 q714
              have hw714_1 := hx714_1
              have hw714_0 := hx714_0
              obtain rfl : ad713 = ad714 := (by injection e714)
              replace hx714_0 := (HB.out.cell (World.block_lt_of_cell? w _ hx714_0)).trans hx714_0
              replace hx714_1 := (HB.out.cell (World.block_lt_of_cell? w _ hx714_1)).trans hx714_1
              replace p714 := eq_true p714
              replace q714 := eq_true q714
              refine start_ (n := 20) (S := fun w' => w'.cell? (ad713.add ((x7_2).toNat * 2)) = some (.int .i64 ((rd_T151 l0 x7_2).f0)) ∧ w'.cell? ⟨(ad713.add ((x7_2).toNat * 2)).block, (ad713.add ((x7_2).toNat * 2)).off + 1, none⟩ = some (.int .i64 ((rd_T151 l0 x7_2).f1)) ∧ w'.cell? (ad713.add ((x7_2).toNat * 2)) = some (.int .i64 ((rd_T151 l0 x7_2).f0)) ∧ w'.cell? ⟨(ad713.add ((x7_2).toNat * 2)).block, (ad713.add ((x7_2).toNat * 2)).off + 1, none⟩ = some (.int .i64 ((rd_T151 l0 x7_2).f1))) (ds := []) #[false, false, false, false, false, false, false, false, false, false, false, false, false, false, false, false, false, false, false, false] (by kernel_rfl) rfl rfl ⟨((HB.out.cell (World.block_lt_of_cell? w _ hw713_0)).trans hw713_0), ((HB.out.cell (World.block_lt_of_cell? w _ hw713_1)).trans hw713_1), ((HB.out.cell (World.block_lt_of_cell? w _ hw714_0)).trans hw714_0), ((HB.out.cell (World.block_lt_of_cell? w _ hw714_1)).trans hw714_1)⟩ (fun hHeld => ?_); refine with_tabW spec_TimeOf.tab10 spec_TimeOf.bits10 (fun HT_ HW_ => ?_)
              generalize wc.drew = w47 at BK706 BK709 HB hx713_0 hx713_1 hx714_0 hx714_1 hHeld ⊢
              refine pure_ (i := 0) (N := some 53) (v := ?_) (a' := ?_) #[true, false, false, false, false, false, false, false, false, false, false, false, false, false, false, false, false, false, false, false] rfl rfl (any_of HT_.out (by kernel_rfl)) (fun _ _ _ h => h) (Or.inl ⟨by rfl, ?_⟩) ?_ ?_
              rotate_left
              ·
               intro w'
               go_simp
               with_reducible rfl
              rotate_left
              ·
               simp only [Act.put, List.setIfInBounds_toArray, List.set_cons_zero, List.set_cons_succ, i64_w, i32_w]
               rfl
              refine pure_ (i := 1) (N := some 54) (v := ?_) (a' := ?_) #[true, true, false, false, false, false, false, false, false, false, false, false, false, false, false, false, false, false, false, false] rfl rfl (any_of HT_.out (by kernel_rfl)) (fun _ _ _ h => h) (Or.inl ⟨by rfl, ?_⟩) ?_ ?_
              rotate_left
              ·
               intro w'
               go_simp
               with_reducible rfl
              rotate_left
              ·
               simp only [Act.put, List.setIfInBounds_toArray, List.set_cons_zero, List.set_cons_succ, i64_w, i32_w]
               rfl
              refine pure_ (i := 2) (N := some 55) (v := ?_) (a' := ?_) #[true, true, true, false, false, false, false, false, false, false, false, false, false, false, false, false, false, false, false, false] rfl rfl (any_of HT_.out (by kernel_rfl)) (fun _ _ _ h => h) (Or.inl ⟨by rfl, ?_⟩) ?_ ?_
              rotate_left
              ·
               intro w'
               go_simp
               with_reducible rfl
              rotate_left
              ·
               simp only [Act.put, List.setIfInBounds_toArray, List.set_cons_zero, List.set_cons_succ, i64_w, i32_w]
               rfl
              refine pure_ (i := 3) (N := some 56) (v := ?_) (a' := ?_) #[true, true, true, true, false, false, false, false, false, false, false, false, false, false, false, false, false, false, false, false] rfl rfl (any_of HT_.out (by kernel_rfl)) (fun _ _ _ h => h) (Or.inl ⟨by rfl, ?_⟩) ?_ ?_
              rotate_left
              ·
               intro w'
               go_simp
               with_reducible rfl
              rotate_left
              ·
               simp only [Act.put, List.setIfInBounds_toArray, List.set_cons_zero, List.set_cons_succ, i64_w, i32_w]
               rfl
              refine pure_ (i := 4) (N := some 57) (v := ?_) (a' := ?_) #[true, true, true, true, true, false, false, false, false, false, false, false, false, false, false, false, false, false, false, false] rfl rfl (any_of HT_.out (by kernel_rfl)) (fun _ _ _ h => h) (Or.inl ⟨by rfl, ?_⟩) ?_ ?_
              rotate_left
              ·
               intro w'
               go_simp
               with_reducible rfl
              rotate_left
              ·
               simp only [Act.put, List.setIfInBounds_toArray, List.set_cons_zero, List.set_cons_succ, i64_w, i32_w]
               rfl
              refine pure_ (i := 8) (N := some 61) (v := ?_) (a' := ?_) #[true, true, true, true, true, false, false, false, true, false, false, false, false, false, false, false, false, false, false, false] rfl rfl (any_of HT_.out (by kernel_rfl)) (fun _ _ _ h => h) (Or.inl ⟨by rfl, ?_⟩) ?_ ?_
              rotate_left
              ·
               intro w'
               go_simp
               with_reducible rfl
              rotate_left
              ·
               simp only [Act.put, List.setIfInBounds_toArray, List.set_cons_zero, List.set_cons_succ, i64_w, i32_w]
               rfl
              refine pure_ (i := 9) (N := some 62) (v := ?_) (a' := ?_) #[true, true, true, true, true, false, false, false, true, true, false, false, false, false, false, false, false, false, false, false] rfl rfl (any_of HT_.out (by kernel_rfl)) (fun _ _ _ h => h) (Or.inl ⟨by rfl, ?_⟩) ?_ ?_
              rotate_left
              ·
               intro w'
               go_simp
               with_reducible rfl
              rotate_left
              ·
               simp only [Act.put, List.setIfInBounds_toArray, List.set_cons_zero, List.set_cons_succ, i64_w, i32_w]
               rfl
              refine pure_ (i := 10) (N := some 63) (v := ?_) (a' := ?_) #[true, true, true, true, true, false, false, false, true, true, true, false, false, false, false, false, false, false, false, false] rfl rfl (any_of HT_.out (by kernel_rfl)) (fun _ _ _ h => h) (Or.inl ⟨by rfl, ?_⟩) ?_ ?_
              rotate_left
              ·
               intro w'
               go_simp
               with_reducible rfl
              rotate_left
              ·
               simp only [Act.put, List.setIfInBounds_toArray, List.set_cons_zero, List.set_cons_succ, i64_w, i32_w]
               rfl
              refine pure_ (i := 11) (N := some 64) (v := ?_) (a' := ?_) #[true, true, true, true, true, false, false, false, true, true, true, true, false, false, false, false, false, false, false, false] rfl rfl (any_of HT_.out (by kernel_rfl)) (fun _ _ _ h => h) (Or.inl ⟨by rfl, ?_⟩) ?_ ?_
              rotate_left
              ·
               intro w'
               go_simp
               with_reducible rfl
              rotate_left
              ·
               simp only [Act.put, List.setIfInBounds_toArray, List.set_cons_zero, List.set_cons_succ, i64_w, i32_w]
               rfl
              refine take_ (i := 5) (N := some 58) (v := ?_) (a' := ?_) #[true, true, true, true, true, true, false, false, true, true, true, true, false, false, false, false, false, false, false, false] rfl rfl (take_ofW HT_.out HW_.out (by kernel_rfl)) (fun _ _ _ h => h) (Or.inl ⟨by rfl, ?_⟩) hHeld ?_ ?_
              rotate_left
              ·
               rintro w' ⟨s0, s1, s2, s3⟩
               go_simp
               with_reducible rfl
              rotate_left
              ·
               simp only [Act.put, List.setIfInBounds_toArray, List.set_cons_zero, List.set_cons_succ, i64_w, i32_w]
               rfl
              refine pure_ (i := 6) (N := some 59) (v := ?_) (a' := ?_) #[true, true, true, true, true, true, true, false, true, true, true, true, false, false, false, false, false, false, false, false] rfl rfl (any_of HT_.out (by kernel_rfl)) (fun _ _ _ h => h) (Or.inl ⟨by rfl, ?_⟩) ?_ ?_
              rotate_left
              ·
               intro w'
               go_simp
               with_reducible rfl
              rotate_left
              ·
               simp only [Act.put, List.setIfInBounds_toArray, List.set_cons_zero, List.set_cons_succ, i64_w, i32_w]
               rfl
              refine pure_ (i := 7) (N := some 60) (v := ?_) (a' := ?_) #[true, true, true, true, true, true, true, true, true, true, true, true, false, false, false, false, false, false, false, false] rfl rfl (any_of HT_.out (by kernel_rfl)) (fun _ _ _ h => h) (Or.inl ⟨by rfl, ?_⟩) ?_ ?_
              rotate_left
              ·
               intro w'
               go_simp
               with_reducible rfl
              rotate_left
              ·
               simp only [Act.put, List.setIfInBounds_toArray, List.set_cons_zero, List.set_cons_succ, i64_w, i32_w]
               rfl
              refine take_ (i := 12) (N := some 65) (v := ?_) (a' := ?_) #[true, true, true, true, true, true, true, true, true, true, true, true, true, false, false, false, false, false, false, false] rfl rfl (take_ofW HT_.out HW_.out (by kernel_rfl)) (fun _ _ _ h => h) (Or.inl ⟨by rfl, ?_⟩) hHeld ?_ ?_
              rotate_left
              ·
               rintro w' ⟨s0, s1, s2, s3⟩
               go_simp
               with_reducible rfl
              rotate_left
              ·
               simp only [Act.put, List.setIfInBounds_toArray, List.set_cons_zero, List.set_cons_succ, i64_w, i32_w]
               rfl
              refine join_ (σ := Nat) 2 #[true, true, true, true, true, true, true, true, true, true, true, true, true, true, true, true, true, true, false, false] (fun s_ => [(66, .tuple #[.agg #[.int .i64 t715, .int .i64 t716], .bool t717]), (9, .pointer (some ⟨s_, 0, none⟩)), (52, .tuple #[.agg #[.int .i64 t715, .int .i64 t716], .bool t717]), (67, .agg #[.int .i64 t715, .int .i64 t716]), (68, .bool t717)]) (fun s_ w' => (w'.cell? (ad713.add ((x7_2).toNat * 2)) = some (.int .i64 ((rd_T151 l0 x7_2).f0)) ∧ w'.cell? ⟨(ad713.add ((x7_2).toNat * 2)).block, (ad713.add ((x7_2).toNat * 2)).off + 1, none⟩ = some (.int .i64 ((rd_T151 l0 x7_2).f1)) ∧ w'.cell? (ad713.add ((x7_2).toNat * 2)) = some (.int .i64 ((rd_T151 l0 x7_2).f0)) ∧ w'.cell? ⟨(ad713.add ((x7_2).toNat * 2)).block, (ad713.add ((x7_2).toNat * 2)).off + 1, none⟩ = some (.int .i64 ((rd_T151 l0 x7_2).f1))) ∧ (w'.heap[gb706]? = some (.cells #[.int .i64 x707000_2, .int .i64 x707001_2] 95 (0, 0))) ∧ (w'.heap[gb709]? = some (.cells #[.int .i64 x710000_2, .int .i64 x710001_2] 95 (0, 0))) ∧ (w'.heap[s_]? = some (.cells #[.int .i64 0, .int .i64 0] 95 (0, 0))) ∧ (w.heap.size ≤ s_) ∧ (w.heap.size ≤ s_) ∧ (gb706 ≠ s_) ∧ (s_ ≠ gb706) ∧ (gb709 ≠ s_) ∧ (s_ ≠ gb709) ∧ (Below w.heap.size w w')) ?_ ?_
              rotate_left
              ·
               intro hCont
               refine two_ (i := 13) (j := 17) (Ni := some 66) (Nj := some 9) #[true, true, true, true, true, true, true, true, true, true, true, true, true, true, false, false, false, false, false, false] #[true, true, true, true, true, true, true, true, true, true, true, true, true, false, false, false, false, true, false, false] rfl rfl rfl rfl (two_of HT_.out (by kernel_rfl)) (by decide) (by decide) (fun K hK => ?_) (fun K hK => ?_)
               ·
                skip
                refine goes_ Try.func122 (by kernel_rfl) rfl #[.int .i64 (wrap64 ((wrap64 (x8_18 - ((rd_T151 l0 x7_2).f0))) * 5000)), .int .i64 ((rd_T151 l0 x7_2).f1)] (by rfl) rfl rfl (by (try simp only [List.map_toArray, List.map_cons, List.map_nil]); first | done | rfl | (simp only [List.length_drop, List.length_take]; rfl)) ?_
                with_reducible refine (spec_MakeRatio.calls kj18 (wrap64 ((wrap64 (x8_18 - ((rd_T151 l0 x7_2).f0))) * 5000)) ((rd_T151 l0 x7_2).f1) t715 t716 t717 _ A26.out).mono ?_
                rintro e w48 ⟨rfl, hb⟩
                refine ⟨_, rfl, ?_⟩
                have n0_ := Aside0.mk (blk_below (g := gb706) (o := .cells #[.int .i64 x707000_2, .int .i64 x707001_2] 95 (0, 0)) (by (with_reducible repeat (first | refine blk_drewN ?_ _ | refine blk_drew ?_ | refine blk_alloc ?_ _)); exact BK706.out) hb)
                have n1_ := Aside0.mk (blk_below (g := gb709) (o := .cells #[.int .i64 x710000_2, .int .i64 x710001_2] 95 (0, 0)) (by (with_reducible repeat (first | refine blk_drewN ?_ _ | refine blk_drew ?_ | refine blk_alloc ?_ _)); exact BK709.out) hb)
                have n2_ := Aside0.mk (below_step (by repeat (first | (with_reducible first | exact HB.out | apply below_alloc | apply pw_below_drewN | apply below_drew1 | refine below_set ?_ GE706.out | refine below_set ?_ GE709.out) | exact HB.out)) hb)
                clear BK706
                clear BK709
                clear HB
                have BK706 := n0_
                have BK709 := n1_
                have HB := n2_
                clear n0_ n1_ n2_
                (try clear hb)
                (try clear hb2)
                (try clear hk)
                (try clear hi)
                refine hK.out _ _ ⟨((HB.out.cell (World.block_lt_of_cell? w _ hw713_0)).trans hw713_0), ((HB.out.cell (World.block_lt_of_cell? w _ hw713_1)).trans hw713_1), ((HB.out.cell (World.block_lt_of_cell? w _ hw714_0)).trans hw714_0), ((HB.out.cell (World.block_lt_of_cell? w _ hw714_1)).trans hw714_1)⟩ (fun hHeld => ?_)
                clear hK K
                refine norm_ (a' := ?_) ?_ ?_
                rotate_left
                ·
                 show Act.put _ (some 66) _ = _
                 simp only [Act.put, List.setIfInBounds_toArray, List.set_cons_zero, List.set_cons_succ, i64_w, i32_w]
                 rfl
                refine pure_ (i := 14) (N := some 52) (v := ?_) (a' := ?_) #[true, true, true, true, true, true, true, true, true, true, true, true, true, true, true, false, false, false, false, false] rfl rfl (any_of HT_.out (by kernel_rfl)) (fun _ _ _ h => h) (Or.inl ⟨by rfl, ?_⟩) ?_ ?_
                rotate_left
                ·
                 intro w'
                 go_simp
                 with_reducible rfl
                rotate_left
                ·
                 simp only [Act.put, List.setIfInBounds_toArray, List.set_cons_zero, List.set_cons_succ, i64_w, i32_w]
                 rfl
                refine pure_ (i := 15) (N := some 67) (v := ?_) (a' := ?_) #[true, true, true, true, true, true, true, true, true, true, true, true, true, true, true, true, false, false, false, false] rfl rfl (any_of HT_.out (by kernel_rfl)) (fun _ _ _ h => h) (Or.inl ⟨by rfl, ?_⟩) ?_ ?_
                rotate_left
                ·
                 intro w'
                 go_simp
                 with_reducible rfl
                rotate_left
                ·
                 simp only [Act.put, List.setIfInBounds_toArray, List.set_cons_zero, List.set_cons_succ, i64_w, i32_w]
                 rfl
                refine pure_ (i := 16) (N := some 68) (v := ?_) (a' := ?_) #[true, true, true, true, true, true, true, true, true, true, true, true, true, true, true, true, true, false, false, false] rfl rfl (any_of HT_.out (by kernel_rfl)) (fun _ _ _ h => h) (Or.inl ⟨by rfl, ?_⟩) ?_ ?_
                rotate_left
                ·
                 intro w'
                 go_simp
                 with_reducible rfl
                rotate_left
                ·
                 simp only [Act.put, List.setIfInBounds_toArray, List.set_cons_zero, List.set_cons_succ, i64_w, i32_w]
                 rfl
                refine one_ (i := 17) (N := some 9) #[true, true, true, true, true, true, true, true, true, true, true, true, true, true, true, true, true, true, false, false] rfl rfl (one_of HT_.out (by kernel_rfl)) (by decide) (fun K hK => ?_)
                refine box_step ?hg (N := 9) ?hd (cs := #[.int .i64 0, .int .i64 0]) (t := 95) ?hr ?_; (case hd => rfl); (case hg => rfl); (case hr => first | (go_simp; done) | (go_simp; rfl))
                intro gb718 hg w49 hbox hb
                have n0_ := Aside0.mk (blk_below (g := gb706) (o := .cells #[.int .i64 x707000_2, .int .i64 x707001_2] 95 (0, 0)) (by (with_reducible repeat (first | refine blk_drewN ?_ _ | refine blk_drew ?_ | refine blk_alloc ?_ _)); exact BK706.out) hb)
                have n1_ := Aside0.mk (blk_below (g := gb709) (o := .cells #[.int .i64 x710000_2, .int .i64 x710001_2] 95 (0, 0)) (by (with_reducible repeat (first | refine blk_drewN ?_ _ | refine blk_drew ?_ | refine blk_alloc ?_ _)); exact BK709.out) hb)
                have n2_ := Aside0.mk (below_step (by repeat (first | (with_reducible first | exact HB.out | apply below_alloc | apply pw_below_drewN | apply below_drew1 | refine below_set ?_ GE706.out | refine below_set ?_ GE709.out) | exact HB.out)) hb)
                have n3_ := Aside0.mk (hbox)
                have n4_ := Aside0.mk ((by rw [hg]; exact (below_size (by repeat (first | (with_reducible first | exact HB.out | apply below_alloc | apply pw_below_drewN | apply below_drew1 | refine below_set ?_ GE706.out | refine below_set ?_ GE709.out) | exact HB.out))) : w.heap.size ≤ gb718))
                have n5_ := Aside0.mk ((by rw [hg]; exact (below_size (by repeat (first | (with_reducible first | exact HB.out | apply below_alloc | apply pw_below_drewN | apply below_drew1 | refine below_set ?_ GE706.out | refine below_set ?_ GE709.out) | exact HB.out))) : w.heap.size ≤ gb718))
                have n6_ := Aside0.mk ((by rw [hg]; exact Nat.ne_of_lt (blk_lt (g := gb706) (o := .cells #[.int .i64 x707000_2, .int .i64 x707001_2] 95 (0, 0)) (by (with_reducible repeat (first | refine blk_drewN ?_ _ | refine blk_drew ?_ | refine blk_alloc ?_ _)); exact BK706.out)) : gb706 ≠ gb718))
                have n7_ := Aside0.mk ((by rw [hg]; exact Nat.ne_of_gt (blk_lt (g := gb706) (o := .cells #[.int .i64 x707000_2, .int .i64 x707001_2] 95 (0, 0)) (by (with_reducible repeat (first | refine blk_drewN ?_ _ | refine blk_drew ?_ | refine blk_alloc ?_ _)); exact BK706.out)) : gb718 ≠ gb706))
                have n8_ := Aside0.mk ((by rw [hg]; exact Nat.ne_of_lt (blk_lt (g := gb709) (o := .cells #[.int .i64 x710000_2, .int .i64 x710001_2] 95 (0, 0)) (by (with_reducible repeat (first | refine blk_drewN ?_ _ | refine blk_drew ?_ | refine blk_alloc ?_ _)); exact BK709.out)) : gb709 ≠ gb718))
                have n9_ := Aside0.mk ((by rw [hg]; exact Nat.ne_of_gt (blk_lt (g := gb709) (o := .cells #[.int .i64 x710000_2, .int .i64 x710001_2] 95 (0, 0)) (by (with_reducible repeat (first | refine blk_drewN ?_ _ | refine blk_drew ?_ | refine blk_alloc ?_ _)); exact BK709.out)) : gb718 ≠ gb709))
                clear BK706
                clear BK709
                clear HB
                have BK706 := n0_
                have BK709 := n1_
                have HB := n2_
                have BK718 := n3_
                have GW718 := n4_
                have GE718 := n5_
                have NB706_718 := n6_
                have NB718_706 := n7_
                have NB709_718 := n8_
                have NB718_709 := n9_
                clear n0_ n1_ n2_ n3_ n4_ n5_ n6_ n7_ n8_ n9_
                clear hb hbox hg
                refine hK.out _ _ ⟨((HB.out.cell (World.block_lt_of_cell? w _ hw713_0)).trans hw713_0), ((HB.out.cell (World.block_lt_of_cell? w _ hw713_1)).trans hw713_1), ((HB.out.cell (World.block_lt_of_cell? w _ hw714_0)).trans hw714_0), ((HB.out.cell (World.block_lt_of_cell? w _ hw714_1)).trans hw714_1)⟩ (fun hHeld => ?_)
                clear hK K
                refine norm_ (a' := ?_) ?_ ?_
                rotate_left
                ·
                 show Act.put _ (some 9) _ = _
                 simp only [Act.put, List.setIfInBounds_toArray, List.set_cons_zero, List.set_cons_succ, i64_w, i32_w]
                 rfl
                exact norm_ (by simp only [putAll, Act.put, List.setIfInBounds_toArray, List.set_cons_zero, List.set_cons_succ]) (hCont (gb718) _ ⟨hHeld, (by (with_reducible repeat (first | refine blk_drewN ?_ _ | refine blk_drew ?_ | refine blk_alloc ?_ _)); exact BK706.out), (by (with_reducible repeat (first | refine blk_drewN ?_ _ | refine blk_drew ?_ | refine blk_alloc ?_ _)); exact BK709.out), (by (with_reducible repeat (first | refine blk_drewN ?_ _ | refine blk_drew ?_ | refine blk_alloc ?_ _)); exact BK718.out), GW718.out, GE718.out, NB706_718.out, NB718_706.out, NB709_718.out, NB718_709.out, (by repeat (first | (with_reducible first | exact HB.out | apply below_alloc | apply pw_below_drewN | apply below_drew1 | refine below_set ?_ GE706.out | refine below_set ?_ GE709.out | refine below_set ?_ GE718.out) | exact HB.out))⟩)
               ·
                skip
                refine box_step ?hg (N := 9) ?hd (cs := #[.int .i64 0, .int .i64 0]) (t := 95) ?hr ?_; (case hd => rfl); (case hg => rfl); (case hr => first | (go_simp; done) | (go_simp; rfl))
                intro gb718 hg w48 hbox hb
                have n0_ := Aside0.mk (blk_below (g := gb706) (o := .cells #[.int .i64 x707000_2, .int .i64 x707001_2] 95 (0, 0)) (by (with_reducible repeat (first | refine blk_drewN ?_ _ | refine blk_drew ?_ | refine blk_alloc ?_ _)); exact BK706.out) hb)
                have n1_ := Aside0.mk (blk_below (g := gb709) (o := .cells #[.int .i64 x710000_2, .int .i64 x710001_2] 95 (0, 0)) (by (with_reducible repeat (first | refine blk_drewN ?_ _ | refine blk_drew ?_ | refine blk_alloc ?_ _)); exact BK709.out) hb)
                have n2_ := Aside0.mk (below_step (by repeat (first | (with_reducible first | exact HB.out | apply below_alloc | apply pw_below_drewN | apply below_drew1 | refine below_set ?_ GE706.out | refine below_set ?_ GE709.out) | exact HB.out)) hb)
                have n3_ := Aside0.mk (hbox)
                have n4_ := Aside0.mk ((by rw [hg]; exact (below_size (by repeat (first | (with_reducible first | exact HB.out | apply below_alloc | apply pw_below_drewN | apply below_drew1 | refine below_set ?_ GE706.out | refine below_set ?_ GE709.out) | exact HB.out))) : w.heap.size ≤ gb718))
                have n5_ := Aside0.mk ((by rw [hg]; exact (below_size (by repeat (first | (with_reducible first | exact HB.out | apply below_alloc | apply pw_below_drewN | apply below_drew1 | refine below_set ?_ GE706.out | refine below_set ?_ GE709.out) | exact HB.out))) : w.heap.size ≤ gb718))
                have n6_ := Aside0.mk ((by rw [hg]; exact Nat.ne_of_lt (blk_lt (g := gb706) (o := .cells #[.int .i64 x707000_2, .int .i64 x707001_2] 95 (0, 0)) (by (with_reducible repeat (first | refine blk_drewN ?_ _ | refine blk_drew ?_ | refine blk_alloc ?_ _)); exact BK706.out)) : gb706 ≠ gb718))
                have n7_ := Aside0.mk ((by rw [hg]; exact Nat.ne_of_gt (blk_lt (g := gb706) (o := .cells #[.int .i64 x707000_2, .int .i64 x707001_2] 95 (0, 0)) (by (with_reducible repeat (first | refine blk_drewN ?_ _ | refine blk_drew ?_ | refine blk_alloc ?_ _)); exact BK706.out)) : gb718 ≠ gb706))
                have n8_ := Aside0.mk ((by rw [hg]; exact Nat.ne_of_lt (blk_lt (g := gb709) (o := .cells #[.int .i64 x710000_2, .int .i64 x710001_2] 95 (0, 0)) (by (with_reducible repeat (first | refine blk_drewN ?_ _ | refine blk_drew ?_ | refine blk_alloc ?_ _)); exact BK709.out)) : gb709 ≠ gb718))
                have n9_ := Aside0.mk ((by rw [hg]; exact Nat.ne_of_gt (blk_lt (g := gb709) (o := .cells #[.int .i64 x710000_2, .int .i64 x710001_2] 95 (0, 0)) (by (with_reducible repeat (first | refine blk_drewN ?_ _ | refine blk_drew ?_ | refine blk_alloc ?_ _)); exact BK709.out)) : gb718 ≠ gb709))
                clear BK706
                clear BK709
                clear HB
                have BK706 := n0_
                have BK709 := n1_
                have HB := n2_
                have BK718 := n3_
                have GW718 := n4_
                have GE718 := n5_
                have NB706_718 := n6_
                have NB718_706 := n7_
                have NB709_718 := n8_
                have NB718_709 := n9_
                clear n0_ n1_ n2_ n3_ n4_ n5_ n6_ n7_ n8_ n9_
                clear hb hbox hg
                refine hK.out _ _ ⟨((HB.out.cell (World.block_lt_of_cell? w _ hw713_0)).trans hw713_0), ((HB.out.cell (World.block_lt_of_cell? w _ hw713_1)).trans hw713_1), ((HB.out.cell (World.block_lt_of_cell? w _ hw714_0)).trans hw714_0), ((HB.out.cell (World.block_lt_of_cell? w _ hw714_1)).trans hw714_1)⟩ (fun hHeld => ?_)
                clear hK K
                refine norm_ (a' := ?_) ?_ ?_
                rotate_left
                ·
                 show Act.put _ (some 9) _ = _
                 simp only [Act.put, List.setIfInBounds_toArray, List.set_cons_zero, List.set_cons_succ, i64_w, i32_w]
                 rfl
                refine one_ (i := 13) (N := some 66) #[true, true, true, true, true, true, true, true, true, true, true, true, true, true, false, false, false, true, false, false] rfl rfl (one_of HT_.out (by kernel_rfl)) (by decide) (fun K hK => ?_)
                refine goes_ Try.func122 (by kernel_rfl) rfl #[.int .i64 (wrap64 ((wrap64 (x8_18 - ((rd_T151 l0 x7_2).f0))) * 5000)), .int .i64 ((rd_T151 l0 x7_2).f1)] (by rfl) rfl rfl (by (try simp only [List.map_toArray, List.map_cons, List.map_nil]); first | done | rfl | (simp only [List.length_drop, List.length_take]; rfl)) ?_
                with_reducible refine (spec_MakeRatio.calls kj18 (wrap64 ((wrap64 (x8_18 - ((rd_T151 l0 x7_2).f0))) * 5000)) ((rd_T151 l0 x7_2).f1) t715 t716 t717 _ A26.out).mono ?_
                rintro e w49 ⟨rfl, hb⟩
                refine ⟨_, rfl, ?_⟩
                have n0_ := Aside0.mk (blk_below (g := gb706) (o := .cells #[.int .i64 x707000_2, .int .i64 x707001_2] 95 (0, 0)) (by (with_reducible repeat (first | refine blk_drewN ?_ _ | refine blk_drew ?_ | refine blk_alloc ?_ _)); exact BK706.out) hb)
                have n1_ := Aside0.mk (blk_below (g := gb709) (o := .cells #[.int .i64 x710000_2, .int .i64 x710001_2] 95 (0, 0)) (by (with_reducible repeat (first | refine blk_drewN ?_ _ | refine blk_drew ?_ | refine blk_alloc ?_ _)); exact BK709.out) hb)
                have n2_ := Aside0.mk (blk_below (g := gb718) (o := .cells #[.int .i64 0, .int .i64 0] 95 (0, 0)) (by (with_reducible repeat (first | refine blk_drewN ?_ _ | refine blk_drew ?_ | refine blk_alloc ?_ _)); exact BK718.out) hb)
                have n3_ := Aside0.mk (below_step (by repeat (first | (with_reducible first | exact HB.out | apply below_alloc | apply pw_below_drewN | apply below_drew1 | refine below_set ?_ GE706.out | refine below_set ?_ GE709.out | refine below_set ?_ GE718.out) | exact HB.out)) hb)
                clear BK706
                clear BK709
                clear BK718
                clear HB
                have BK706 := n0_
                have BK709 := n1_
                have BK718 := n2_
                have HB := n3_
                clear n0_ n1_ n2_ n3_
                (try clear hb)
                (try clear hb2)
                (try clear hk)
                (try clear hi)
                refine hK.out _ _ ⟨((HB.out.cell (World.block_lt_of_cell? w _ hw713_0)).trans hw713_0), ((HB.out.cell (World.block_lt_of_cell? w _ hw713_1)).trans hw713_1), ((HB.out.cell (World.block_lt_of_cell? w _ hw714_0)).trans hw714_0), ((HB.out.cell (World.block_lt_of_cell? w _ hw714_1)).trans hw714_1)⟩ (fun hHeld => ?_)
                clear hK K
                refine norm_ (a' := ?_) ?_ ?_
                rotate_left
                ·
                 show Act.put _ (some 66) _ = _
                 simp only [Act.put, List.setIfInBounds_toArray, List.set_cons_zero, List.set_cons_succ, i64_w, i32_w]
                 rfl
                refine pure_ (i := 14) (N := some 52) (v := ?_) (a' := ?_) #[true, true, true, true, true, true, true, true, true, true, true, true, true, true, true, false, false, true, false, false] rfl rfl (any_of HT_.out (by kernel_rfl)) (fun _ _ _ h => h) (Or.inl ⟨by rfl, ?_⟩) ?_ ?_
                rotate_left
                ·
                 intro w'
                 go_simp
                 with_reducible rfl
                rotate_left
                ·
                 simp only [Act.put, List.setIfInBounds_toArray, List.set_cons_zero, List.set_cons_succ, i64_w, i32_w]
                 rfl
                refine pure_ (i := 15) (N := some 67) (v := ?_) (a' := ?_) #[true, true, true, true, true, true, true, true, true, true, true, true, true, true, true, true, false, true, false, false] rfl rfl (any_of HT_.out (by kernel_rfl)) (fun _ _ _ h => h) (Or.inl ⟨by rfl, ?_⟩) ?_ ?_
                rotate_left
                ·
                 intro w'
                 go_simp
                 with_reducible rfl
                rotate_left
                ·
                 simp only [Act.put, List.setIfInBounds_toArray, List.set_cons_zero, List.set_cons_succ, i64_w, i32_w]
                 rfl
                refine pure_ (i := 16) (N := some 68) (v := ?_) (a' := ?_) #[true, true, true, true, true, true, true, true, true, true, true, true, true, true, true, true, true, true, false, false] rfl rfl (any_of HT_.out (by kernel_rfl)) (fun _ _ _ h => h) (Or.inl ⟨by rfl, ?_⟩) ?_ ?_
                rotate_left
                ·
                 intro w'
                 go_simp
                 with_reducible rfl
                rotate_left
                ·
                 simp only [Act.put, List.setIfInBounds_toArray, List.set_cons_zero, List.set_cons_succ, i64_w, i32_w]
                 rfl
                exact norm_ (by simp only [putAll, Act.put, List.setIfInBounds_toArray, List.set_cons_zero, List.set_cons_succ]) (hCont (gb718) _ ⟨hHeld, (by (with_reducible repeat (first | refine blk_drewN ?_ _ | refine blk_drew ?_ | refine blk_alloc ?_ _)); exact BK706.out), (by (with_reducible repeat (first | refine blk_drewN ?_ _ | refine blk_drew ?_ | refine blk_alloc ?_ _)); exact BK709.out), (by (with_reducible repeat (first | refine blk_drewN ?_ _ | refine blk_drew ?_ | refine blk_alloc ?_ _)); exact BK718.out), GW718.out, GE718.out, NB706_718.out, NB718_706.out, NB709_718.out, NB718_709.out, (by repeat (first | (with_reducible first | exact HB.out | apply below_alloc | apply pw_below_drewN | apply below_drew1 | refine below_set ?_ GE706.out | refine below_set ?_ GE709.out | refine below_set ?_ GE718.out) | exact HB.out))⟩)
              rintro gb718 w50 ⟨hS_, h0_, h1_, h2_, h3_, h4_, h5_, h6_, h7_, h8_, h9_⟩
              have n0_ : Aside0 (w50.heap[gb706]? = some (.cells #[.int .i64 x707000_2, .int .i64 x707001_2] 95 (0, 0))) := ⟨h0_⟩
              have n1_ : Aside0 (w50.heap[gb709]? = some (.cells #[.int .i64 x710000_2, .int .i64 x710001_2] 95 (0, 0))) := ⟨h1_⟩
              have n2_ : Aside0 (w50.heap[gb718]? = some (.cells #[.int .i64 0, .int .i64 0] 95 (0, 0))) := ⟨h2_⟩
              have n3_ : Aside0 (w.heap.size ≤ gb718) := ⟨h3_⟩
              have n4_ : Aside0 (w.heap.size ≤ gb718) := ⟨h4_⟩
              have n5_ : Aside0 (gb706 ≠ gb718) := ⟨h5_⟩
              have n6_ : Aside0 (gb718 ≠ gb706) := ⟨h6_⟩
              have n7_ : Aside0 (gb709 ≠ gb718) := ⟨h7_⟩
              have n8_ : Aside0 (gb718 ≠ gb709) := ⟨h8_⟩
              have n9_ : Aside0 (Below w.heap.size w w50) := ⟨h9_⟩
              clear BK706
              clear BK709
              clear HB
              clear h0_ h1_ h2_ h3_ h4_ h5_ h6_ h7_ h8_ h9_
              have BK706 := n0_
              have BK709 := n1_
              have BK718 := n2_
              have GW718 := n3_
              have GE718 := n4_
              have NB706_718 := n5_
              have NB718_706 := n6_
              have NB709_718 := n7_
              have NB718_709 := n8_
              have HB := n9_
              clear n0_ n1_ n2_ n3_ n4_ n5_ n6_ n7_ n8_ n9_
              have hHeld : w50.cell? (ad713.add ((x7_2).toNat * 2)) = some (.int .i64 ((rd_T151 l0 x7_2).f0)) ∧ w50.cell? ⟨(ad713.add ((x7_2).toNat * 2)).block, (ad713.add ((x7_2).toNat * 2)).off + 1, none⟩ = some (.int .i64 ((rd_T151 l0 x7_2).f1)) ∧ w50.cell? (ad713.add ((x7_2).toNat * 2)) = some (.int .i64 ((rd_T151 l0 x7_2).f0)) ∧ w50.cell? ⟨(ad713.add ((x7_2).toNat * 2)).block, (ad713.add ((x7_2).toNat * 2)).off + 1, none⟩ = some (.int .i64 ((rd_T151 l0 x7_2).f1)) := hS_
              refine norm_ (a' := ?_) ?_ ?_
              rotate_left
              ·
               simp only [putAll, Act.put, List.setIfInBounds_toArray, List.set_cons_zero, List.set_cons_succ]
               rfl
              refine one_ (i := 18) (N := none) #[true, true, true, true, true, true, true, true, true, true, true, true, true, true, true, true, true, true, true, false] rfl rfl (one_of HT_.out (by kernel_rfl)) (by decide) (fun K hK => ?_)
              have hs51 : w50.cell? ⟨gb718, 0, none⟩ = some (.int .i64 0) := (blk_cell BK718.out 0).trans rfl
              have hfs51 := blk_frozen BK718.out 0
              have hns51_0 := NB706_718.out
              have hns51_1 := NB709_718.out
              have hms51_0 := NB718_706.out
              have hms51_1 := NB718_709.out
              have hs52 : w50.cell? ⟨gb718, 1, none⟩ = some (.int .i64 0) := (blk_cell BK718.out 1).trans rfl
              have hfs52 := blk_frozen BK718.out 1
              have hns52_0 := NB706_718.out
              have hns52_1 := NB709_718.out
              have hms52_0 := NB718_706.out
              have hms52_1 := NB718_709.out
              refine skip_ (w1 := ?_) (by rfl) rfl ?_ ?_
              rotate_left
              ·
               go_simp
               rfl
              refine hK.out _ _ ⟨((cell_far (p := ⟨gb718, _, none⟩) (by first | exact Nat.ne_of_lt (Nat.lt_of_lt_of_le (by have := World.block_lt_of_cell? _ _ hw713_0; first | rwa [add_block] at this | exact this) GW718.out) | (rw [add_block]; exact Nat.ne_of_lt (Nat.lt_of_lt_of_le (by have := World.block_lt_of_cell? _ _ hw713_0; first | rwa [add_block] at this | exact this) GW718.out)) | (show (Addr.add _ _).block ≠ _; rw [add_block]; exact Nat.ne_of_lt (Nat.lt_of_lt_of_le (by have := World.block_lt_of_cell? _ _ hw713_0; first | rwa [add_block] at this | exact this) GW718.out)) | (dsimp only; exact Nat.ne_of_lt (Nat.lt_of_lt_of_le (by have := World.block_lt_of_cell? _ _ hw713_0; first | rwa [add_block] at this | exact this) GW718.out))) _).trans (((cell_far (p := ⟨gb718, _, none⟩) (by first | exact Nat.ne_of_lt (Nat.lt_of_lt_of_le (by have := World.block_lt_of_cell? _ _ hw713_0; first | rwa [add_block] at this | exact this) GW718.out) | (rw [add_block]; exact Nat.ne_of_lt (Nat.lt_of_lt_of_le (by have := World.block_lt_of_cell? _ _ hw713_0; first | rwa [add_block] at this | exact this) GW718.out)) | (show (Addr.add _ _).block ≠ _; rw [add_block]; exact Nat.ne_of_lt (Nat.lt_of_lt_of_le (by have := World.block_lt_of_cell? _ _ hw713_0; first | rwa [add_block] at this | exact this) GW718.out)) | (dsimp only; exact Nat.ne_of_lt (Nat.lt_of_lt_of_le (by have := World.block_lt_of_cell? _ _ hw713_0; first | rwa [add_block] at this | exact this) GW718.out))) _).trans (hHeld.1)))), ((cell_far (p := ⟨gb718, _, none⟩) (by first | exact Nat.ne_of_lt (Nat.lt_of_lt_of_le (by have := World.block_lt_of_cell? _ _ hw713_1; first | rwa [add_block] at this | exact this) GW718.out) | (rw [add_block]; exact Nat.ne_of_lt (Nat.lt_of_lt_of_le (by have := World.block_lt_of_cell? _ _ hw713_1; first | rwa [add_block] at this | exact this) GW718.out)) | (show (Addr.add _ _).block ≠ _; rw [add_block]; exact Nat.ne_of_lt (Nat.lt_of_lt_of_le (by have := World.block_lt_of_cell? _ _ hw713_1; first | rwa [add_block] at this | exact this) GW718.out)) | (dsimp only; exact Nat.ne_of_lt (Nat.lt_of_lt_of_le (by have := World.block_lt_of_cell? _ _ hw713_1; first | rwa [add_block] at this | exact this) GW718.out))) _).trans (((cell_far (p := ⟨gb718, _, none⟩) (by first | exact Nat.ne_of_lt (Nat.lt_of_lt_of_le (by have := World.block_lt_of_cell? _ _ hw713_1; first | rwa [add_block] at this | exact this) GW718.out) | (rw [add_block]; exact Nat.ne_of_lt (Nat.lt_of_lt_of_le (by have := World.block_lt_of_cell? _ _ hw713_1; first | rwa [add_block] at this | exact this) GW718.out)) | (show (Addr.add _ _).block ≠ _; rw [add_block]; exact Nat.ne_of_lt (Nat.lt_of_lt_of_le (by have := World.block_lt_of_cell? _ _ hw713_1; first | rwa [add_block] at this | exact this) GW718.out)) | (dsimp only; exact Nat.ne_of_lt (Nat.lt_of_lt_of_le (by have := World.block_lt_of_cell? _ _ hw713_1; first | rwa [add_block] at this | exact this) GW718.out))) _).trans (hHeld.2.1)))), ((cell_far (p := ⟨gb718, _, none⟩) (by first | exact Nat.ne_of_lt (Nat.lt_of_lt_of_le (by have := World.block_lt_of_cell? _ _ hw714_0; first | rwa [add_block] at this | exact this) GW718.out) | (rw [add_block]; exact Nat.ne_of_lt (Nat.lt_of_lt_of_le (by have := World.block_lt_of_cell? _ _ hw714_0; first | rwa [add_block] at this | exact this) GW718.out)) | (show (Addr.add _ _).block ≠ _; rw [add_block]; exact Nat.ne_of_lt (Nat.lt_of_lt_of_le (by have := World.block_lt_of_cell? _ _ hw714_0; first | rwa [add_block] at this | exact this) GW718.out)) | (dsimp only; exact Nat.ne_of_lt (Nat.lt_of_lt_of_le (by have := World.block_lt_of_cell? _ _ hw714_0; first | rwa [add_block] at this | exact this) GW718.out))) _).trans (((cell_far (p := ⟨gb718, _, none⟩) (by first | exact Nat.ne_of_lt (Nat.lt_of_lt_of_le (by have := World.block_lt_of_cell? _ _ hw714_0; first | rwa [add_block] at this | exact this) GW718.out) | (rw [add_block]; exact Nat.ne_of_lt (Nat.lt_of_lt_of_le (by have := World.block_lt_of_cell? _ _ hw714_0; first | rwa [add_block] at this | exact this) GW718.out)) | (show (Addr.add _ _).block ≠ _; rw [add_block]; exact Nat.ne_of_lt (Nat.lt_of_lt_of_le (by have := World.block_lt_of_cell? _ _ hw714_0; first | rwa [add_block] at this | exact this) GW718.out)) | (dsimp only; exact Nat.ne_of_lt (Nat.lt_of_lt_of_le (by have := World.block_lt_of_cell? _ _ hw714_0; first | rwa [add_block] at this | exact this) GW718.out))) _).trans (hHeld.2.2.1)))), ((cell_far (p := ⟨gb718, _, none⟩) (by first | exact Nat.ne_of_lt (Nat.lt_of_lt_of_le (by have := World.block_lt_of_cell? _ _ hw714_1; first | rwa [add_block] at this | exact this) GW718.out) | (rw [add_block]; exact Nat.ne_of_lt (Nat.lt_of_lt_of_le (by have := World.block_lt_of_cell? _ _ hw714_1; first | rwa [add_block] at this | exact this) GW718.out)) | (show (Addr.add _ _).block ≠ _; rw [add_block]; exact Nat.ne_of_lt (Nat.lt_of_lt_of_le (by have := World.block_lt_of_cell? _ _ hw714_1; first | rwa [add_block] at this | exact this) GW718.out)) | (dsimp only; exact Nat.ne_of_lt (Nat.lt_of_lt_of_le (by have := World.block_lt_of_cell? _ _ hw714_1; first | rwa [add_block] at this | exact this) GW718.out))) _).trans (((cell_far (p := ⟨gb718, _, none⟩) (by first | exact Nat.ne_of_lt (Nat.lt_of_lt_of_le (by have := World.block_lt_of_cell? _ _ hw714_1; first | rwa [add_block] at this | exact this) GW718.out) | (rw [add_block]; exact Nat.ne_of_lt (Nat.lt_of_lt_of_le (by have := World.block_lt_of_cell? _ _ hw714_1; first | rwa [add_block] at this | exact this) GW718.out)) | (show (Addr.add _ _).block ≠ _; rw [add_block]; exact Nat.ne_of_lt (Nat.lt_of_lt_of_le (by have := World.block_lt_of_cell? _ _ hw714_1; first | rwa [add_block] at this | exact this) GW718.out)) | (dsimp only; exact Nat.ne_of_lt (Nat.lt_of_lt_of_le (by have := World.block_lt_of_cell? _ _ hw714_1; first | rwa [add_block] at this | exact this) GW718.out))) _).trans (hHeld.2.2.2))))⟩ (fun hHeld => ?_)
              clear hK K
              refine pure_ (i := 19) (N := some 10) (v := ?_) (a' := ?_) #[true, true, true, true, true, true, true, true, true, true, true, true, true, true, true, true, true, true, true, true] rfl rfl (any_of HT_.out (by kernel_rfl)) (fun _ _ _ h => h) (Or.inl ⟨by rfl, ?_⟩) ?_ ?_
              rotate_left
              ·
               intro w'
               go_simp
               with_reducible rfl
              rotate_left
              ·
               simp only [Act.put, List.setIfInBounds_toArray, List.set_cons_zero, List.set_cons_succ, i64_w, i32_w]
               rfl
              refine done_ (done_of HT_.out (by kernel_rfl)) ?_
              have hnb53 := NB709_706.out
              have hnc53 := NB706_709.out
              have hnb54 := NB709_718.out
              have hnc54 := NB718_709.out
              have hcz55_0 : w50.cell? ⟨gb709, 0, none⟩ = some (.int .i64 x710000_2) := (blk_cell BK709.out 0).trans rfl
              have hcz55_1 : w50.cell? ⟨gb709, 1, none⟩ = some (.int .i64 x710001_2) := (blk_cell BK709.out 1).trans rfl
              have hfz55_0 := blk_frozen BK709.out 0
              have hfz55_1 := blk_frozen BK709.out 1
              have hnb56 := NB718_706.out
              have hnc56 := NB706_718.out
              have hcz57_0 : w50.cell? ⟨gb718, 0, none⟩ = some (.int .i64 0) := (blk_cell BK718.out 0).trans rfl
              have hcz57_1 : w50.cell? ⟨gb718, 1, none⟩ = some (.int .i64 0) := (blk_cell BK718.out 1).trans rfl
              have hfz57_0 := blk_frozen BK718.out 0
              have hfz57_1 := blk_frozen BK718.out 1
              try go_wp2_with (first | ((with_reducible refine gate_callee (f := 145) rfl ?_); refine goesL_ (some 72) rfl rfl Try.func145 (by kernel_rfl) rfl #[.agg #[.int .i64 x710000_2, .int .i64 x710001_2], .agg #[.int .i64 t715, .int .i64 t716]] rfl (by (try simp only [List.map_toArray, List.map_cons, List.map_nil]); first | done | rfl | (simp only [List.length_drop, List.length_take]; rfl)) ?_; (with_reducible refine (spec_AddRatio.calls kj18 x710000_2 x710001_2 t715 t716 t719 t720 false _ A27.out).mono ?_); rintro e w58 ⟨rfl, hb⟩; refine ⟨_, rfl, ?_⟩; have n0_ := Aside0.mk (blk_below (g := gb706) (o := .cells #[.int .i64 x707000_2, .int .i64 x707001_2] 95 (0, 0)) (by (with_reducible repeat (first | refine blk_drewN ?_ _ | refine blk_drew ?_ | refine blk_alloc ?_ _)); refine blk_far ?_ NB706_718.out _; (with_reducible repeat (first | refine blk_drewN ?_ _ | refine blk_drew ?_ | refine blk_alloc ?_ _)); refine blk_far ?_ NB706_718.out _; (with_reducible repeat (first | refine blk_drewN ?_ _ | refine blk_drew ?_ | refine blk_alloc ?_ _)); exact BK706.out) hb); have n1_ := Aside0.mk (blk_below (g := gb709) (o := .cells #[.int .i64 x710000_2, .int .i64 x710001_2] 95 (0, 0)) (by (with_reducible repeat (first | refine blk_drewN ?_ _ | refine blk_drew ?_ | refine blk_alloc ?_ _)); refine blk_far ?_ NB709_718.out _; (with_reducible repeat (first | refine blk_drewN ?_ _ | refine blk_drew ?_ | refine blk_alloc ?_ _)); refine blk_far ?_ NB709_718.out _; (with_reducible repeat (first | refine blk_drewN ?_ _ | refine blk_drew ?_ | refine blk_alloc ?_ _)); exact BK709.out) hb); have n2_ := Aside0.mk (blk_below (g := gb718) (o := .cells #[.int .i64 t715, .int .i64 t716] 95 (0, 0)) (by (with_reducible repeat (first | refine blk_drewN ?_ _ | refine blk_drew ?_ | refine blk_alloc ?_ _)); refine blk_put (cs := #[.int .i64 t715, .int .i64 0]) ?_ 1 _ rfl; (with_reducible repeat (first | refine blk_drewN ?_ _ | refine blk_drew ?_ | refine blk_alloc ?_ _)); refine blk_put (cs := #[.int .i64 0, .int .i64 0]) ?_ 0 _ rfl; (with_reducible repeat (first | refine blk_drewN ?_ _ | refine blk_drew ?_ | refine blk_alloc ?_ _)); exact BK718.out) hb); have n3_ := Aside0.mk (below_step (by repeat (first | (with_reducible first | exact HB.out | apply below_alloc | apply pw_below_drewN | apply below_drew1 | refine below_set ?_ GE706.out | refine below_set ?_ GE709.out | refine below_set ?_ GE718.out) | exact HB.out)) hb); clear BK706; clear BK709; clear BK718; clear HB; have BK706 := n0_; have BK709 := n1_; have BK718 := n2_; have HB := n3_; clear n0_ n1_ n2_ n3_; (try clear hb); (try clear hb2); (try clear hk); (try clear hi)) | ((with_reducible refine gate_dst (N := 11) rfl ?_); refine box_event ?hg (N := 11) ?hd (cs := #[.int .i64 0, .int .i64 0]) (t := 95) ?hr ?_; (case hd => rfl); (case hg => rfl); (case hr => first | (go_simp; done) | (go_simp; rfl)); intro gb722 hg w59 hbox hb; have n0_ := Aside0.mk (blk_below (g := gb706) (o := .cells #[.int .i64 x707000_2, .int .i64 x707001_2] 95 (0, 0)) (by (with_reducible repeat (first | refine blk_drewN ?_ _ | refine blk_drew ?_ | refine blk_alloc ?_ _)); exact BK706.out) hb); have n1_ := Aside0.mk (blk_below (g := gb709) (o := .cells #[.int .i64 x710000_2, .int .i64 x710001_2] 95 (0, 0)) (by (with_reducible repeat (first | refine blk_drewN ?_ _ | refine blk_drew ?_ | refine blk_alloc ?_ _)); exact BK709.out) hb); have n2_ := Aside0.mk (blk_below (g := gb718) (o := .cells #[.int .i64 t715, .int .i64 t716] 95 (0, 0)) (by (with_reducible repeat (first | refine blk_drewN ?_ _ | refine blk_drew ?_ | refine blk_alloc ?_ _)); exact BK718.out) hb); have n3_ := Aside0.mk (below_step (by repeat (first | (with_reducible first | exact HB.out | apply below_alloc | apply pw_below_drewN | apply below_drew1 | refine below_set ?_ GE706.out | refine below_set ?_ GE709.out | refine below_set ?_ GE718.out) | exact HB.out)) hb); have n4_ := Aside0.mk (hbox); have n5_ := Aside0.mk ((by rw [hg]; exact (below_size (by repeat (first | (with_reducible first | exact HB.out | apply below_alloc | apply pw_below_drewN | apply below_drew1 | refine below_set ?_ GE706.out | refine below_set ?_ GE709.out | refine below_set ?_ GE718.out) | exact HB.out))) : w.heap.size ≤ gb722)); have n6_ := Aside0.mk ((by rw [hg]; exact (below_size (by repeat (first | (with_reducible first | exact HB.out | apply below_alloc | apply pw_below_drewN | apply below_drew1 | refine below_set ?_ GE706.out | refine below_set ?_ GE709.out | refine below_set ?_ GE718.out) | exact HB.out))) : w.heap.size ≤ gb722)); have n7_ := Aside0.mk ((by rw [hg]; exact Nat.ne_of_lt (blk_lt (g := gb706) (o := .cells #[.int .i64 x707000_2, .int .i64 x707001_2] 95 (0, 0)) (by (with_reducible repeat (first | refine blk_drewN ?_ _ | refine blk_drew ?_ | refine blk_alloc ?_ _)); exact BK706.out)) : gb706 ≠ gb722)); have n8_ := Aside0.mk ((by rw [hg]; exact Nat.ne_of_gt (blk_lt (g := gb706) (o := .cells #[.int .i64 x707000_2, .int .i64 x707001_2] 95 (0, 0)) (by (with_reducible repeat (first | refine blk_drewN ?_ _ | refine blk_drew ?_ | refine blk_alloc ?_ _)); exact BK706.out)) : gb722 ≠ gb706)); have n9_ := Aside0.mk ((by rw [hg]; exact Nat.ne_of_lt (blk_lt (g := gb709) (o := .cells #[.int .i64 x710000_2, .int .i64 x710001_2] 95 (0, 0)) (by (with_reducible repeat (first | refine blk_drewN ?_ _ | refine blk_drew ?_ | refine blk_alloc ?_ _)); exact BK709.out)) : gb709 ≠ gb722)); have n10_ := Aside0.mk ((by rw [hg]; exact Nat.ne_of_gt (blk_lt (g := gb709) (o := .cells #[.int .i64 x710000_2, .int .i64 x710001_2] 95 (0, 0)) (by (with_reducible repeat (first | refine blk_drewN ?_ _ | refine blk_drew ?_ | refine blk_alloc ?_ _)); exact BK709.out)) : gb722 ≠ gb709)); have n11_ := Aside0.mk ((by rw [hg]; exact Nat.ne_of_lt (blk_lt (g := gb718) (o := .cells #[.int .i64 t715, .int .i64 t716] 95 (0, 0)) (by (with_reducible repeat (first | refine blk_drewN ?_ _ | refine blk_drew ?_ | refine blk_alloc ?_ _)); exact BK718.out)) : gb718 ≠ gb722)); have n12_ := Aside0.mk ((by rw [hg]; exact Nat.ne_of_gt (blk_lt (g := gb718) (o := .cells #[.int .i64 t715, .int .i64 t716] 95 (0, 0)) (by (with_reducible repeat (first | refine blk_drewN ?_ _ | refine blk_drew ?_ | refine blk_alloc ?_ _)); exact BK718.out)) : gb722 ≠ gb718)); clear BK706; clear BK709; clear BK718; clear HB; have BK706 := n0_; have BK709 := n1_; have BK718 := n2_; have HB := n3_; have BK722 := n4_; have GW722 := n5_; have GE722 := n6_; have NB706_722 := n7_; have NB722_706 := n8_; have NB709_722 := n9_; have NB722_709 := n10_; have NB718_722 := n11_; have NB722_718 := n12_; clear n0_ n1_ n2_ n3_ n4_ n5_ n6_ n7_ n8_ n9_ n10_ n11_ n12_; clear hb hbox hg; have hnb60 := NB722_706.out; have hnc60 := NB706_722.out; have hnb61 := NB722_709.out; have hnc61 := NB709_722.out; have hnb62 := NB722_718.out; have hnc62 := NB718_722.out; have hcz63_0 : w59.cell? ⟨gb722, 0, none⟩ = some (.int .i64 0) := (blk_cell BK722.out 0).trans rfl; have hcz63_1 : w59.cell? ⟨gb722, 1, none⟩ = some (.int .i64 0) := (blk_cell BK722.out 1).trans rfl; have hfz63_0 := blk_frozen BK722.out 0; have hfz63_1 := blk_frozen BK722.out 1; have hcz64_0 : w59.cell? ⟨gb706, 0, none⟩ = some (.int .i64 x707000_2) := (blk_cell BK706.out 0).trans rfl; have hcz64_1 : w59.cell? ⟨gb706, 1, none⟩ = some (.int .i64 x707001_2) := (blk_cell BK706.out 1).trans rfl; have hfz64_0 := blk_frozen BK706.out 0; have hfz64_1 := blk_frozen BK706.out 1))
              refine bodyPost_ret (results_ct rfl _ _ gb706 95 #[.int .i64 0, .int .i64 0] (0, 0) _ rfl (by (with_reducible repeat (first | refine blk_drewN ?_ _ | refine blk_drew ?_ | refine blk_alloc ?_ _)); refine blk_put (cs := #[.int .i64 0, .int .i64 x707001_2]) ?_ 1 _ rfl; (with_reducible repeat (first | refine blk_drewN ?_ _ | refine blk_drew ?_ | refine blk_alloc ?_ _)); refine blk_put (cs := #[.int .i64 x707000_2, .int .i64 x707001_2]) ?_ 0 _ rfl; (with_reducible repeat (first | refine blk_drewN ?_ _ | refine blk_drew ?_ | refine blk_alloc ?_ _)); refine blk_far ?_ NB706_722.out _; (with_reducible repeat (first | refine blk_drewN ?_ _ | refine blk_drew ?_ | refine blk_alloc ?_ _)); refine blk_far ?_ NB706_722.out _; (with_reducible repeat (first | refine blk_drewN ?_ _ | refine blk_drew ?_ | refine blk_alloc ?_ _)); exact BK706.out) Try.underlying95 rfl (by kernel_rfl)) rfl ?_
              exact ⟨by first | rfl | (simp [errW_none, errW_some] <;> rfl) | (simp [*, errW_none, errW_some] <;> rfl), by repeat (first | (with_reducible first | exact HB.out | apply below_alloc | apply pw_below_drewN | apply below_drew1 | refine below_set ?_ GE706.out | refine below_set ?_ GE709.out | refine below_set ?_ GE718.out | refine below_set ?_ GE722.out) | exact HB.out)⟩
            ·
             rw [if_neg c25] at H
             exact absurd H (by simp)
           ·
            rw [if_neg c24] at H
            exact absurd H (by simp)
        ·
         replace c18 := Bool.eq_false_iff.mpr c18
         subst c18
         rw [if_neg (show ¬ (false = true) by decide)] at H
         simp only [Option.some.injEq, Prod.mk.injEq] at H
         obtain ⟨rfl, rfl, rfl⟩ := H
         have hnb65 := NB709_706.out
         have hnc65 := NB706_709.out
         have hcz66_0 : wc.cell? ⟨gb709, 0, none⟩ = some (.int .i64 x710000_2) := (blk_cell BK709.out 0).trans rfl
         have hcz66_1 : wc.cell? ⟨gb709, 1, none⟩ = some (.int .i64 x710001_2) := (blk_cell BK709.out 1).trans rfl
         have hfz66_0 := blk_frozen BK709.out 0
         have hfz66_1 := blk_frozen BK709.out 1
         have hcz67_0 : wc.cell? ⟨gb706, 0, none⟩ = some (.int .i64 x707000_2) := (blk_cell BK706.out 0).trans rfl
         have hcz67_1 : wc.cell? ⟨gb706, 1, none⟩ = some (.int .i64 x707001_2) := (blk_cell BK706.out 1).trans rfl
         have hfz67_0 := blk_frozen BK706.out 0
         have hfz67_1 := blk_frozen BK706.out 1
         go_wp2
         refine bodyPost_ret (results_ct rfl _ _ gb706 95 #[.int .i64 x710000_2, .int .i64 x710001_2] (0, 0) _ rfl (by (with_reducible repeat (first | refine blk_drewN ?_ _ | refine blk_drew ?_ | refine blk_alloc ?_ _)); refine blk_put (cs := #[.int .i64 x710000_2, .int .i64 x707001_2]) ?_ 1 _ rfl; (with_reducible repeat (first | refine blk_drewN ?_ _ | refine blk_drew ?_ | refine blk_alloc ?_ _)); refine blk_put (cs := #[.int .i64 x707000_2, .int .i64 x707001_2]) ?_ 0 _ rfl; (with_reducible repeat (first | refine blk_drewN ?_ _ | refine blk_drew ?_ | refine blk_alloc ?_ _)); exact BK706.out) Try.underlying95 rfl (by kernel_rfl)) rfl ?_
         exact ⟨by first | rfl | (simp [errW_none, errW_some] <;> rfl) | (simp [*, errW_none, errW_some] <;> rfl), by repeat (first | (with_reducible first | exact HB.out | apply below_alloc | apply pw_below_drewN | apply below_drew1 | refine below_set ?_ GE706.out | refine below_set ?_ GE709.out) | exact HB.out)⟩
end Go.Proofs.Ytbhlmeghbfmgiaa.F

namespace Go.Proofs.Ytbhlmeghbfmgiaa.F
open Go.RowKit Go.Proofs.YtbhlmeghbfmgiaaW.PrintWords Go.Proofs.YtbhlmeghbfmgiaaW.PrintLast Go.Proofs.YtbhlmeghbfmgiaaW.PrintMore
attribute [local go_sem] max2_int min2_int max_two min_two max_three min_three max_four min_four
set_option linter.unusedVariables false
set_option linter.unusedSimpArgs false
def spec_DrawTickAt.j0 : Nat → List (S151) → Bool → List Int → Int → Int → Int → Int → Option ((List (S151)) × Int × Int)
 | 0, _, _, _, _, _, _, _ => none
 | k + 1, x5, x24, x1616000, x1616001, x1616002, x1628000, x1628001 => if x24 = true then ((spec_l1Below.f x1616000 x1616001 x1616002 9000).bind fun bt1631 => ((spec_l1Below.f x1616000 bt1631.2.1 bt1631.2.2 7).bind fun bt1634 => ((spec_MakeRatio.f k (wrap64 (bt1631.1 - 100)) (wrap64 (1 + bt1634.1))).bind fun bt1637 => (some (x5, bt1637.1, bt1637.2.1))))) else (some (x5, x1628000, x1628001))
def spec_DrawTickAt.f (k : Nat) (l0 : List Int) : Option ((List (S151)) × Int × Int) := (spec_l1New.f k l0).bind fun bt1612 => ((spec_l11Any.f k bt1612.1 bt1612.2.1 bt1612.2.2).bind fun bt1616 => ((spec_l1Below.f bt1612.1 bt1616.2.1 bt1616.2.2 200).bind fun bt1621 => ((spec_TimeOf.f k bt1616.1 bt1621.1).bind fun bt1624 => (if bt1624.2.2 = true then ((spec_l1Once.f bt1612.1 bt1621.2.1 bt1621.2.2 3).bind fun bt1628 => (spec_DrawTickAt.j0 k bt1616.1 bt1628.1 bt1612.1 bt1628.2.1 bt1628.2.2 bt1624.1 bt1624.2.1)) else (spec_DrawTickAt.j0 k bt1616.1 true bt1612.1 bt1621.2.1 bt1621.2.2 bt1624.1 bt1624.2.1)))))
set_option maxHeartbeats 8000000 in
set_option maxRecDepth 100000 in
theorem spec_DrawTickAt.calls (k : Nat) (A0 : Option Addr) (c0 : Nat) (l0 : List Int) (r1 : List (S151)) (r2 : Int) (r3 : Int) (w : World) (hr0 : Kd.C (Kd.int .u8) w A0 l0.length l0) (hc0 : l0.length ≤ c0) (h : spec_DrawTickAt.f k l0 = some (r1, r2, r3)) :
  Calls Try.prog 61 #[.slice A0 l0.length c0] w fun e w' => ∃ v0_ : Value, e = .returned (.tuple #[v0_, .agg #[.int .i64 r2, .int .i64 r3]]) ∧ Kd.R k151 151 w' w.heap.size (fun _ => True) v0_ r1 ∧ Below w.heap.size w w' := by
 have hu95 := Try.underlying95
 have HR0 := Aside0.mk hr0
 have HC0 := Aside0.mk hc0
 clear hr0 hc0
 have HB := Aside0.mk (Below.refl w.heap.size w)
 have H : ((spec_l1New.f k l0).bind fun bt1612 => ((spec_l11Any.f k bt1612.1 bt1612.2.1 bt1612.2.2).bind fun bt1616 => ((spec_l1Below.f bt1612.1 bt1616.2.1 bt1616.2.2 200).bind fun bt1621 => ((spec_TimeOf.f k bt1616.1 bt1621.1).bind fun bt1624 => (if bt1624.2.2 = true then ((spec_l1Once.f bt1612.1 bt1621.2.1 bt1621.2.2 3).bind fun bt1628 => (spec_DrawTickAt.j0 k bt1616.1 bt1628.1 bt1612.1 bt1628.2.1 bt1628.2.2 bt1624.1 bt1624.2.1)) else (spec_DrawTickAt.j0 k bt1616.1 true bt1612.1 bt1621.2.1 bt1621.2.2 bt1624.1 bt1624.2.1)))))) = some (r1, r2, r3) := h
 clear h
 replace H := Option.bind_eq_some_iff.mp H
 obtain ⟨⟨t1612, t1613, t1614⟩, A20, H⟩ := H
 try dsimp only at H
 have A2 := Aside0.mk A20
 clear A20
 replace H := Option.bind_eq_some_iff.mp H
 obtain ⟨⟨t1616, t1619, t1620⟩, A30, H⟩ := H
 try dsimp only at H
 have A3 := Aside0.mk A30
 clear A30
 replace H := Option.bind_eq_some_iff.mp H
 obtain ⟨⟨t1621, t1622, t1623⟩, A40, H⟩ := H
 try dsimp only at H
 have A4 := Aside0.mk A40
 clear A40
 replace H := Option.bind_eq_some_iff.mp H
 obtain ⟨⟨t1624, t1625, t1626⟩, A50, H⟩ := H
 try dsimp only at H
 have A5 := Aside0.mk A50
 clear A50
 have HC6 := Aside0.mk H
 clear H
 go_enter Try.func61, Try.ntmps61
 go_upto_region 4 with (first | ((with_reducible refine gate_dst (N := 3) rfl ?_); refine box_event ?hg (N := 3) ?hd (cs := #[.int .i64 0, .int .i64 0]) (t := 95) ?hr ?_; (case hd => rfl); (case hg => rfl); (case hr => first | (go_simp; done) | (go_simp; rfl)); intro gb1611 hg w7 hbox hb; have n0_ := Aside0.mk (below_step (by repeat (first | (with_reducible first | exact HB.out | apply below_alloc | apply pw_below_drewN | apply below_drew1) | exact HB.out)) hb); have n1_ := Aside0.mk (hbox); have n2_ := Aside0.mk ((by rw [hg]; exact (below_size (by repeat (first | (with_reducible first | exact HB.out | apply below_alloc | apply pw_below_drewN | apply below_drew1) | exact HB.out))) : w.heap.size ≤ gb1611)); have n3_ := Aside0.mk ((by rw [hg]; exact (below_size (by repeat (first | (with_reducible first | exact HB.out | apply below_alloc | apply pw_below_drewN | apply below_drew1) | exact HB.out))) : w.heap.size ≤ gb1611)); clear HB; have HB := n0_; have BK1611 := n1_; have GW1611 := n2_; have GE1611 := n3_; clear n0_ n1_ n2_ n3_; clear hb hbox hg) | ((with_reducible refine gate_callee (f := 74) rfl ?_); refine goesL_ (some 9) rfl rfl Try.func74 (by kernel_rfl) rfl #[.slice A0 l0.length c0] rfl (by (try simp only [List.map_toArray, List.map_cons, List.map_nil]); first | done | rfl | (simp only [List.length_drop, List.length_take]; rfl)) ?_; (with_reducible refine (spec_l1New.calls k _ _ l0 t1612 t1613 t1614 w _ ?side1 ?side2 ?side3 A2.out).mono ?_); (case side1 => repeat (first | (with_reducible first | exact HB.out | apply below_alloc | apply pw_below_drewN | apply below_drew1 | refine below_set ?_ GE1611.out) | exact HB.out)); (case side2 => exact HR0.out); (case side3 => exact HC0.out); rintro e w8 ⟨g1615, rfl, hi, hb, hb2⟩; refine ⟨_, rfl, ?_⟩; have n0_ := Aside0.mk (blk_below (g := gb1611) (o := .cells #[.int .i64 0, .int .i64 0] 95 (0, 0)) (by (with_reducible repeat (first | refine blk_drewN ?_ _ | refine blk_drew ?_ | refine blk_alloc ?_ _)); exact BK1611.out) hb2); have n1_ := Aside0.mk (hb); have n2_ := Aside0.mk (hi); have n3_ := Aside0.mk (IsS157.ne_blk hi (blk_below (g := gb1611) (o := .cells #[.int .i64 0, .int .i64 0] 95 (0, 0)) (by (with_reducible repeat (first | refine blk_drewN ?_ _ | refine blk_drew ?_ | refine blk_alloc ?_ _)); exact BK1611.out) hb2) (by decide)); have n4_ := Aside0.mk (Ne.symm (IsS157.ne_blk hi (blk_below (g := gb1611) (o := .cells #[.int .i64 0, .int .i64 0] 95 (0, 0)) (by (with_reducible repeat (first | refine blk_drewN ?_ _ | refine blk_drew ?_ | refine blk_alloc ?_ _)); exact BK1611.out) hb2) (by decide))); clear BK1611; clear HB; have BK1611 := n0_; have HB := n1_; have HI1615 := n2_; have NB1615_1611 := n3_; have NB1611_1615 := n4_; clear n0_ n1_ n2_ n3_ n4_; (try clear hb); (try clear hb2); (try clear hk); (try clear hi)) | ((with_reducible refine gate_callee (f := 94) rfl ?_); refine goesL_ (some 11) rfl rfl Try.func94 (by kernel_rfl) rfl #[.pointer (some ⟨g1615, 0, none⟩)] rfl (by (try simp only [List.map_toArray, List.map_cons, List.map_nil]); first | done | rfl | (simp only [List.length_drop, List.length_take]; rfl)) ?_; (with_reducible refine (spec_l11Any.calls k g1615 t1612 t1613 t1614 t1616 t1619 t1620 w _ ?side1 ?side2 A3.out).mono ?_); (case side1 => repeat (first | (with_reducible first | exact HI1615.out | apply IsS157.alloc | apply IsS157.drewN | apply IsS157.drew | apply IsS157.set_1 | apply IsS157.set_2 | refine IsS157.far ?_ NB1615_1611.out _) | exact HI1615.out)); (case side2 => repeat (first | (with_reducible first | exact HB.out | apply below_alloc | apply pw_below_drewN | apply below_drew1 | refine below_set ?_ (IsS157.ge HI1615.out) | refine below_set ?_ GE1611.out) | exact HB.out)); rintro e w9 ⟨v1617, rfl, ho0, hi, hb, hk⟩; refine ⟨_, rfl, ?_⟩; have n0_ := Aside0.mk (KeepBut.blk hk (g' := gb1611) (o := .cells #[.int .i64 0, .int .i64 0] 95 (0, 0)) (by (with_reducible repeat (first | refine blk_drewN ?_ _ | refine blk_drew ?_ | refine blk_alloc ?_ _)); exact BK1611.out) NB1611_1615.out (by simp)); have n1_ := Aside0.mk (Kd.R_lower ho0 (below_size (by repeat (first | (with_reducible first | exact HB.out | apply below_alloc | apply pw_below_drewN | apply below_drew1 | refine below_set ?_ (IsS157.ge HI1615.out) | refine below_set ?_ GE1611.out) | exact HB.out)))); have n2_ := Aside0.mk (hb); have n3_ := Aside0.mk (hi); clear BK1611; clear HB; clear HI1615; have BK1611 := n0_; have HO1618 := n1_; have HB := n2_; have HI1615 := n3_; clear n0_ n1_ n2_ n3_; (try clear hb); (try clear hb2); (try clear hk); (try clear hi); (try clear ho0)) | ((with_reducible refine gate_callee (f := 91) rfl ?_); refine goesL_ (some 15) rfl rfl Try.func91 (by kernel_rfl) rfl #[.pointer (some ⟨g1615, 0, none⟩), .int .i64 200] rfl (by (try simp only [List.map_toArray, List.map_cons, List.map_nil]); first | done | rfl | (simp only [List.length_drop, List.length_take]; rfl)) ?_; (with_reducible refine (spec_l1Below.calls g1615 t1612 t1619 t1620 200 t1621 t1622 t1623 w _ ?side1 ?side2 A4.out).mono ?_); (case side1 => repeat (first | (with_reducible first | exact HI1615.out | apply IsS157.alloc | apply IsS157.drewN | apply IsS157.drew | apply IsS157.set_1 | apply IsS157.set_2 | refine IsS157.far ?_ NB1615_1611.out _) | exact HI1615.out)); (case side2 => repeat (first | (with_reducible first | exact HB.out | apply below_alloc | apply pw_below_drewN | apply below_drew1 | refine below_set ?_ (IsS157.ge HI1615.out) | refine below_set ?_ GE1611.out) | exact HB.out)); rintro e w10 ⟨rfl, hi, hb, hk⟩; refine ⟨_, rfl, ?_⟩; have n0_ := Aside0.mk (KeepBut.blk hk (g' := gb1611) (o := .cells #[.int .i64 0, .int .i64 0] 95 (0, 0)) (by (with_reducible repeat (first | refine blk_drewN ?_ _ | refine blk_drew ?_ | refine blk_alloc ?_ _)); exact BK1611.out) NB1611_1615.out (by simp)); have n1_ := Aside0.mk (Kd.R_mono (Kd.R_keep (IsS157.apart (show IsS157 w _ g1615 t1612 t1619 t1620 from by repeat (first | (with_reducible first | exact HI1615.out | apply IsS157.alloc | apply IsS157.drewN | apply IsS157.drew | apply IsS157.set_1 | apply IsS157.set_2 | refine IsS157.far ?_ NB1615_1611.out _) | exact HI1615.out)) (by (with_reducible repeat (first | apply Kd.R_alloc | apply Kd.R_drewN | apply Kd.R_drew)); exact HO1618.out) (by decide)) hk (fun _ h => h.2)) (fun _ h => h.1)); have n2_ := Aside0.mk (hb); have n3_ := Aside0.mk (hi); clear BK1611; clear HO1618; clear HB; clear HI1615; have BK1611 := n0_; have HO1618 := n1_; have HB := n2_; have HI1615 := n3_; clear n0_ n1_ n2_ n3_; (try clear hb); (try clear hb2); (try clear hk); (try clear hi); obtain ⟨Ao11, co11, eo11⟩ := Kd.R_slice HO1618.out; subst eo11) | ((with_reducible refine gate_callee (f := 98) rfl ?_); refine goesL_ (some 16) rfl rfl Try.func98 (by kernel_rfl) rfl #[.slice Ao11 t1616.length co11, .int .i64 t1621] rfl (by (try simp only [List.map_toArray, List.map_cons, List.map_nil]); first | done | rfl | (simp only [List.length_drop, List.length_take]; rfl)) ?_; (with_reducible refine (spec_TimeOf.calls k _ _ t1616 t1621 t1624 t1625 t1626 _ ?side1 ?side2 A5.out).mono ?_); (case side1 => repeat (first | exact (Kd.R_reads' HO1618.out).2.2 | (with_reducible refine Kd.C_alloc ?_ _) | (with_reducible refine Kd.C_drewN ?_ _) | (with_reducible refine Kd.C_drew ?_))); (case side2 => exact (Kd.R_reads' HO1618.out).2.1); rintro e w12 ⟨rfl, hb⟩; refine ⟨_, rfl, ?_⟩; have n0_ := Aside0.mk (Kd.R_below (by (with_reducible repeat (first | apply Kd.R_alloc | apply Kd.R_drewN | apply Kd.R_drew)); exact HO1618.out) hb); have n1_ := Aside0.mk (blk_below (g := gb1611) (o := .cells #[.int .i64 0, .int .i64 0] 95 (0, 0)) (by (with_reducible repeat (first | refine blk_drewN ?_ _ | refine blk_drew ?_ | refine blk_alloc ?_ _)); exact BK1611.out) hb); have n2_ := Aside0.mk (IsS157.below (by repeat (first | (with_reducible first | exact HI1615.out | apply IsS157.alloc | apply IsS157.drewN | apply IsS157.drew | apply IsS157.set_1 | apply IsS157.set_2 | refine IsS157.far ?_ NB1615_1611.out _) | exact HI1615.out)) hb); have n3_ := Aside0.mk (below_step (by repeat (first | (with_reducible first | exact HB.out | apply below_alloc | apply pw_below_drewN | apply below_drew1 | refine below_set ?_ (IsS157.ge HI1615.out) | refine below_set ?_ GE1611.out) | exact HB.out)) hb); clear HO1618; clear BK1611; clear HI1615; clear HB; have HO1618 := n0_; have BK1611 := n1_; have HI1615 := n2_; have HB := n3_; clear n0_ n1_ n2_ n3_; (try clear hb); (try clear hb2); (try clear hk); (try clear hi)) | ((with_reducible refine gate_dst (N := 6) rfl ?_); refine box_event ?hg (N := 6) ?hd (cs := #[.int .i64 0, .int .i64 0]) (t := 95) ?hr ?_; (case hd => rfl); (case hg => rfl); (case hr => first | (go_simp; done) | (go_simp; rfl)); intro gb1627 hg w13 hbox hb; have n0_ := Aside0.mk (Kd.R_below (by (with_reducible repeat (first | apply Kd.R_alloc | apply Kd.R_drewN | apply Kd.R_drew)); exact HO1618.out) hb); have n1_ := Aside0.mk (blk_below (g := gb1611) (o := .cells #[.int .i64 0, .int .i64 0] 95 (0, 0)) (by (with_reducible repeat (first | refine blk_drewN ?_ _ | refine blk_drew ?_ | refine blk_alloc ?_ _)); exact BK1611.out) hb); have n2_ := Aside0.mk (IsS157.below (by repeat (first | (with_reducible first | exact HI1615.out | apply IsS157.alloc | apply IsS157.drewN | apply IsS157.drew | apply IsS157.set_1 | apply IsS157.set_2 | refine IsS157.far ?_ NB1615_1611.out _) | exact HI1615.out)) hb); have n3_ := Aside0.mk (below_step (by repeat (first | (with_reducible first | exact HB.out | apply below_alloc | apply pw_below_drewN | apply below_drew1 | refine below_set ?_ (IsS157.ge HI1615.out) | refine below_set ?_ GE1611.out) | exact HB.out)) hb); have n4_ := Aside0.mk (hbox); have n5_ := Aside0.mk ((by rw [hg]; exact (below_size (by repeat (first | (with_reducible first | exact HB.out | apply below_alloc | apply pw_below_drewN | apply below_drew1 | refine below_set ?_ (IsS157.ge HI1615.out) | refine below_set ?_ GE1611.out) | exact HB.out))) : w.heap.size ≤ gb1627)); have n6_ := Aside0.mk ((by rw [hg]; exact (below_size (by repeat (first | (with_reducible first | exact HB.out | apply below_alloc | apply pw_below_drewN | apply below_drew1 | refine below_set ?_ (IsS157.ge HI1615.out) | refine below_set ?_ GE1611.out) | exact HB.out))) : w.heap.size ≤ gb1627)); have n7_ := Aside0.mk ((by rw [hg]; exact Nat.ne_of_lt (blk_lt (g := gb1611) (o := .cells #[.int .i64 0, .int .i64 0] 95 (0, 0)) (by (with_reducible repeat (first | refine blk_drewN ?_ _ | refine blk_drew ?_ | refine blk_alloc ?_ _)); exact BK1611.out)) : gb1611 ≠ gb1627)); have n8_ := Aside0.mk ((by rw [hg]; exact Nat.ne_of_gt (blk_lt (g := gb1611) (o := .cells #[.int .i64 0, .int .i64 0] 95 (0, 0)) (by (with_reducible repeat (first | refine blk_drewN ?_ _ | refine blk_drew ?_ | refine blk_alloc ?_ _)); exact BK1611.out)) : gb1627 ≠ gb1611)); have n9_ := Aside0.mk ((by rw [hg]; exact Nat.ne_of_lt (IsS157.lt (show IsS157 w _ g1615 t1612 t1622 t1623 from by repeat (first | (with_reducible first | exact HI1615.out | apply IsS157.alloc | apply IsS157.drewN | apply IsS157.drew | apply IsS157.set_1 | apply IsS157.set_2 | refine IsS157.far ?_ NB1615_1611.out _) | exact HI1615.out))) : g1615 ≠ gb1627)); have n10_ := Aside0.mk ((by rw [hg]; exact Nat.ne_of_gt (IsS157.lt (show IsS157 w _ g1615 t1612 t1622 t1623 from by repeat (first | (with_reducible first | exact HI1615.out | apply IsS157.alloc | apply IsS157.drewN | apply IsS157.drew | apply IsS157.set_1 | apply IsS157.set_2 | refine IsS157.far ?_ NB1615_1611.out _) | exact HI1615.out))) : gb1627 ≠ g1615)); clear HO1618; clear BK1611; clear HI1615; clear HB; have HO1618 := n0_; have BK1611 := n1_; have HI1615 := n2_; have HB := n3_; have BK1627 := n4_; have GW1627 := n5_; have GE1627 := n6_; have NB1611_1627 := n7_; have NB1627_1611 := n8_; have NB1615_1627 := n9_; have NB1627_1615 := n10_; clear n0_ n1_ n2_ n3_ n4_ n5_ n6_ n7_ n8_ n9_ n10_; clear hb hbox hg; have hnb14 := NB1627_1611.out; have hnc14 := NB1611_1627.out; have hnb15 := NB1627_1615.out; have hnc15 := NB1615_1627.out; have hcz16_0 : w13.cell? ⟨gb1627, 0, none⟩ = some (.int .i64 0) := (blk_cell BK1627.out 0).trans rfl; have hcz16_1 : w13.cell? ⟨gb1627, 1, none⟩ = some (.int .i64 0) := (blk_cell BK1627.out 1).trans rfl; have hfz16_0 := blk_frozen BK1627.out 0; have hfz16_1 := blk_frozen BK1627.out 1))
 (try simp only [Act.put, List.setIfInBounds_toArray, List.set_cons_zero, List.set_cons_succ])
 go_cut [24] (fun v24 wc => ∃ (kq : Nat) (x24_5 : Bool) (x1616001_5 : Int) (x1616002_5 : Int), v24 = .bool x24_5 ∧ Aside0 (spec_DrawTickAt.j0 kq t1616 x24_5 t1612 x1616001_5 x1616002_5 t1624 t1625 = some (r1, r2, r3)) ∧ Aside0 (kq ≤ k) ∧ Aside0 (Kd.R k151 151 wc w.heap.size (fun _ => True) (.slice Ao11 t1616.length co11) t1616) ∧ Aside0 (wc.heap[gb1611]? = some (.cells #[.int .i64 0, .int .i64 0] 95 (0, 0))) ∧ Aside0 (wc.heap[gb1627]? = some (.cells #[.int .i64 t1624, .int .i64 t1625] 95 (0, 0))) ∧ Aside0 (IsS157 w wc g1615 t1612 x1616001_5 x1616002_5) ∧ Aside0 (Below w.heap.size w wc))
 case first =>
  have H := HC6.out
  clear HC6
  by_cases c17 : t1626 = true
  ·
   subst c17
   rw [if_pos rfl] at H
   replace H := Option.bind_eq_some_iff.mp H
   obtain ⟨⟨t1628, t1629, t1630⟩, A180, H⟩ := H
   try dsimp only at H
   have A18 := Aside0.mk A180
   clear A180
   have H' := Aside0.mk H
   clear H
   go_wp2_with (first | (go_at_call 77; (with_reducible refine (spec_l1Once.calls g1615 t1612 t1622 t1623 3 t1628 t1629 t1630 w _ ?side1 ?side2 A18.out).mono ?_); (case side1 => repeat (first | (with_reducible first | exact HI1615.out | apply IsS157.alloc | apply IsS157.drewN | apply IsS157.drew | apply IsS157.set_1 | apply IsS157.set_2 | refine IsS157.far ?_ NB1615_1611.out _ | refine IsS157.far ?_ NB1615_1627.out _) | exact HI1615.out)); (case side2 => repeat (first | (with_reducible first | exact HB.out | apply below_alloc | apply pw_below_drewN | apply below_drew1 | refine below_set ?_ (IsS157.ge HI1615.out) | refine below_set ?_ GE1611.out | refine below_set ?_ GE1627.out) | exact HB.out)); rintro e w19 ⟨rfl, hi, hb, hk⟩; have n0_ := Aside0.mk (KeepBut.blk hk (g' := gb1611) (o := .cells #[.int .i64 0, .int .i64 0] 95 (0, 0)) (by (with_reducible repeat (first | refine blk_drewN ?_ _ | refine blk_drew ?_ | refine blk_alloc ?_ _)); refine blk_far ?_ NB1611_1627.out _; (with_reducible repeat (first | refine blk_drewN ?_ _ | refine blk_drew ?_ | refine blk_alloc ?_ _)); refine blk_far ?_ NB1611_1627.out _; (with_reducible repeat (first | refine blk_drewN ?_ _ | refine blk_drew ?_ | refine blk_alloc ?_ _)); exact BK1611.out) NB1611_1615.out (by simp)); have n1_ := Aside0.mk (Kd.R_mono (Kd.R_keep (IsS157.apart (show IsS157 w _ g1615 t1612 t1622 t1623 from by repeat (first | (with_reducible first | exact HI1615.out | apply IsS157.alloc | apply IsS157.drewN | apply IsS157.drew | apply IsS157.set_1 | apply IsS157.set_2 | refine IsS157.far ?_ NB1615_1611.out _ | refine IsS157.far ?_ NB1615_1627.out _) | exact HI1615.out)) (by (with_reducible repeat (first | apply Kd.R_alloc | apply Kd.R_drewN | apply Kd.R_drew)); exact (Kd.R_mono (Kd.R_far (p := ⟨gb1627, 1, none⟩) (Kd.R_far (p := ⟨gb1627, 0, none⟩) (Kd.R_types HO1618.out BK1627.out (by decide)) (fun _ hk => hk.2) (.int .i64 t1624)) (fun _ hk => hk.2) (.int .i64 t1625)) (fun _ h_ => h_.1))) (by decide)) hk (fun _ h => h.2)) (fun _ h => h.1)); have n2_ := Aside0.mk (KeepBut.blk hk (g' := gb1627) (o := .cells #[.int .i64 t1624, .int .i64 t1625] 95 (0, 0)) (by (with_reducible repeat (first | refine blk_drewN ?_ _ | refine blk_drew ?_ | refine blk_alloc ?_ _)); refine blk_put (cs := #[.int .i64 t1624, .int .i64 0]) ?_ 1 _ rfl; (with_reducible repeat (first | refine blk_drewN ?_ _ | refine blk_drew ?_ | refine blk_alloc ?_ _)); refine blk_put (cs := #[.int .i64 0, .int .i64 0]) ?_ 0 _ rfl; (with_reducible repeat (first | refine blk_drewN ?_ _ | refine blk_drew ?_ | refine blk_alloc ?_ _)); exact BK1627.out) NB1627_1615.out (by simp)); have n3_ := Aside0.mk (hb); have n4_ := Aside0.mk (hi); clear BK1611; clear HO1618; clear BK1627; clear HB; clear HI1615; have BK1611 := n0_; have HO1618 := n1_; have BK1627 := n2_; have HB := n3_; have HI1615 := n4_; clear n0_ n1_ n2_ n3_ n4_; (try clear hb); (try clear hb2); (try clear hk); (try clear hi)))
   go_meet
   case rel => exact ⟨_, (t1628), (t1629), (t1630), (by first | rfl | (simp; done) | (simp [*]; done)), H', ⟨by first | omega | exact Nat.le_refl _⟩, ⟨by (with_reducible repeat (first | apply Kd.R_alloc | apply Kd.R_drewN | apply Kd.R_drew)); exact HO1618.out⟩, ⟨by (with_reducible repeat (first | refine blk_drewN ?_ _ | refine blk_drew ?_ | refine blk_alloc ?_ _)); exact BK1611.out⟩, ⟨by (with_reducible repeat (first | refine blk_drewN ?_ _ | refine blk_drew ?_ | refine blk_alloc ?_ _)); exact BK1627.out⟩, ⟨by repeat (first | (with_reducible first | exact HI1615.out | apply IsS157.alloc | apply IsS157.drewN | apply IsS157.drew | apply IsS157.set_1 | apply IsS157.set_2 | refine IsS157.far ?_ NB1615_1611.out _ | refine IsS157.far ?_ NB1615_1627.out _) | exact HI1615.out)⟩, ⟨by repeat (first | (with_reducible first | exact HB.out | apply below_alloc | apply pw_below_drewN | apply below_drew1 | refine below_set ?_ (IsS157.ge HI1615.out) | refine below_set ?_ GE1611.out | refine below_set ?_ GE1627.out) | exact HB.out)⟩⟩
  ·
   replace c17 := Bool.eq_false_iff.mpr c17
   subst c17
   rw [if_neg (show ¬ (false = true) by decide)] at H
   have H' := Aside0.mk H
   clear H
   go_wp2
   go_meet
   case rel => exact ⟨_, (true), (t1622), (t1623), (by first | rfl | (simp; done) | (simp [*]; done)), H', ⟨by first | omega | exact Nat.le_refl _⟩, ⟨by (with_reducible repeat (first | apply Kd.R_alloc | apply Kd.R_drewN | apply Kd.R_drew)); exact Kd.R_mono (Kd.R_far (p := ⟨gb1627, 1, none⟩) (Kd.R_far (p := ⟨gb1627, 0, none⟩) (Kd.R_types HO1618.out BK1627.out (by decide)) (fun _ hk => hk.2) (.int .i64 t1624)) (fun _ hk => hk.2) (.int .i64 t1625)) (fun _ hk => trivial)⟩, ⟨by (with_reducible repeat (first | refine blk_drewN ?_ _ | refine blk_drew ?_ | refine blk_alloc ?_ _)); refine blk_far ?_ NB1611_1627.out _; (with_reducible repeat (first | refine blk_drewN ?_ _ | refine blk_drew ?_ | refine blk_alloc ?_ _)); refine blk_far ?_ NB1611_1627.out _; (with_reducible repeat (first | refine blk_drewN ?_ _ | refine blk_drew ?_ | refine blk_alloc ?_ _)); exact BK1611.out⟩, ⟨by (with_reducible repeat (first | refine blk_drewN ?_ _ | refine blk_drew ?_ | refine blk_alloc ?_ _)); refine blk_put (cs := #[.int .i64 t1624, .int .i64 0]) ?_ 1 _ rfl; (with_reducible repeat (first | refine blk_drewN ?_ _ | refine blk_drew ?_ | refine blk_alloc ?_ _)); refine blk_put (cs := #[.int .i64 0, .int .i64 0]) ?_ 0 _ rfl; (with_reducible repeat (first | refine blk_drewN ?_ _ | refine blk_drew ?_ | refine blk_alloc ?_ _)); exact BK1627.out⟩, ⟨by repeat (first | (with_reducible first | exact HI1615.out | apply IsS157.alloc | apply IsS157.drewN | apply IsS157.drew | apply IsS157.set_1 | apply IsS157.set_2 | refine IsS157.far ?_ NB1615_1611.out _ | refine IsS157.far ?_ NB1615_1627.out _) | exact HI1615.out)⟩, ⟨by repeat (first | (with_reducible first | exact HB.out | apply below_alloc | apply pw_below_drewN | apply below_drew1 | refine below_set ?_ (IsS157.ge HI1615.out) | refine below_set ?_ GE1611.out | refine below_set ?_ GE1627.out) | exact HB.out)⟩⟩
 case rest =>
  clear HC6
  try clear c1
  try clear p2
  try clear c6
  try clear c7
  try clear c9
  try clear c14
  try clear c15
  try clear c17
  try clear hcz16_0
  try clear hcz16_1
  try clear hfz16_0
  try clear hfz16_1
  obtain ⟨kq, x24_5, x1616001_5, x1616002_5, rfl, HA, HJ5, HO_5, BK1611, BK1627, HI1615, HB⟩ := hcut
  cases kq with
  | zero => exact absurd HA.out (by simp [spec_DrawTickAt.j0])
  | succ kj5 =>
   have H := HA.out
   clear HA
   simp only [spec_DrawTickAt.j0] at H
   by_cases c20 : x24_5 = true
   ·
    subst c20
    rw [if_pos rfl] at H
    replace H := Option.bind_eq_some_iff.mp H
    obtain ⟨⟨t1631, t1632, t1633⟩, A210, H⟩ := H
    try dsimp only at H
    have A21 := Aside0.mk A210
    clear A210
    replace H := Option.bind_eq_some_iff.mp H
    obtain ⟨⟨t1634, t1635, t1636⟩, A220, H⟩ := H
    try dsimp only at H
    have A22 := Aside0.mk A220
    clear A220
    replace H := Option.bind_eq_some_iff.mp H
    obtain ⟨⟨t1637, t1638, t1639⟩, A230, H⟩ := H
    try dsimp only at H
    have A23 := Aside0.mk A230
    clear A230
    simp only [Option.some.injEq, Prod.mk.injEq] at H
    obtain ⟨rfl, rfl, rfl⟩ := H
    try go_wp2_with (first | ((with_reducible refine gate_callee (f := 91) rfl ?_); refine goesL_ (some 27) rfl rfl Try.func91 (by kernel_rfl) rfl #[.pointer (some ⟨g1615, 0, none⟩), .int .i64 9000] rfl (by (try simp only [List.map_toArray, List.map_cons, List.map_nil]); first | done | rfl | (simp only [List.length_drop, List.length_take]; rfl)) ?_; (with_reducible refine (spec_l1Below.calls g1615 t1612 x1616001_5 x1616002_5 9000 t1631 t1632 t1633 w _ ?side1 ?side2 A21.out).mono ?_); (case side1 => repeat (first | (with_reducible first | exact HI1615.out | apply IsS157.alloc | apply IsS157.drewN | apply IsS157.drew | apply IsS157.set_1 | apply IsS157.set_2 | refine IsS157.far ?_ NB1615_1611.out _ | refine IsS157.far ?_ NB1615_1627.out _) | exact HI1615.out)); (case side2 => repeat (first | (with_reducible first | exact HB.out | apply below_alloc | apply pw_below_drewN | apply below_drew1 | refine below_set ?_ (IsS157.ge HI1615.out) | refine below_set ?_ GE1611.out | refine below_set ?_ GE1627.out) | exact HB.out)); rintro e w24 ⟨rfl, hi, hb, hk⟩; refine ⟨_, rfl, ?_⟩; have n0_ := Aside0.mk (Kd.R_mono (Kd.R_keep (IsS157.apart (show IsS157 w _ g1615 t1612 x1616001_5 x1616002_5 from by repeat (first | (with_reducible first | exact HI1615.out | apply IsS157.alloc | apply IsS157.drewN | apply IsS157.drew | apply IsS157.set_1 | apply IsS157.set_2 | refine IsS157.far ?_ NB1615_1611.out _ | refine IsS157.far ?_ NB1615_1627.out _) | exact HI1615.out)) (by (with_reducible repeat (first | apply Kd.R_alloc | apply Kd.R_drewN | apply Kd.R_drew)); exact HO_5.out) (by decide)) hk (fun _ h => h.2)) (fun _ h => h.1)); have n1_ := Aside0.mk (KeepBut.blk hk (g' := gb1611) (o := .cells #[.int .i64 0, .int .i64 0] 95 (0, 0)) (by (with_reducible repeat (first | refine blk_drewN ?_ _ | refine blk_drew ?_ | refine blk_alloc ?_ _)); exact BK1611.out) NB1611_1615.out (by simp)); have n2_ := Aside0.mk (KeepBut.blk hk (g' := gb1627) (o := .cells #[.int .i64 t1624, .int .i64 t1625] 95 (0, 0)) (by (with_reducible repeat (first | refine blk_drewN ?_ _ | refine blk_drew ?_ | refine blk_alloc ?_ _)); exact BK1627.out) NB1627_1615.out (by simp)); have n3_ := Aside0.mk (hb); have n4_ := Aside0.mk (hi); clear HO_5; clear BK1611; clear BK1627; clear HB; clear HI1615; have HO_5 := n0_; have BK1611 := n1_; have BK1627 := n2_; have HB := n3_; have HI1615 := n4_; clear n0_ n1_ n2_ n3_ n4_; (try clear hb); (try clear hb2); (try clear hk); (try clear hi)) | ((with_reducible refine gate_callee (f := 91) rfl ?_); refine goesL_ (some 30) rfl rfl Try.func91 (by kernel_rfl) rfl #[.pointer (some ⟨g1615, 0, none⟩), .int .i64 7] rfl (by (try simp only [List.map_toArray, List.map_cons, List.map_nil]); first | done | rfl | (simp only [List.length_drop, List.length_take]; rfl)) ?_; (with_reducible refine (spec_l1Below.calls g1615 t1612 t1632 t1633 7 t1634 t1635 t1636 w _ ?side1 ?side2 A22.out).mono ?_); (case side1 => repeat (first | (with_reducible first | exact HI1615.out | apply IsS157.alloc | apply IsS157.drewN | apply IsS157.drew | apply IsS157.set_1 | apply IsS157.set_2 | refine IsS157.far ?_ NB1615_1611.out _ | refine IsS157.far ?_ NB1615_1627.out _) | exact HI1615.out)); (case side2 => repeat (first | (with_reducible first | exact HB.out | apply below_alloc | apply pw_below_drewN | apply below_drew1 | refine below_set ?_ (IsS157.ge HI1615.out) | refine below_set ?_ GE1611.out | refine below_set ?_ GE1627.out) | exact HB.out)); rintro e w25 ⟨rfl, hi, hb, hk⟩; refine ⟨_, rfl, ?_⟩; have n0_ := Aside0.mk (Kd.R_mono (Kd.R_keep (IsS157.apart (show IsS157 w _ g1615 t1612 t1632 t1633 from by repeat (first | (with_reducible first | exact HI1615.out | apply IsS157.alloc | apply IsS157.drewN | apply IsS157.drew | apply IsS157.set_1 | apply IsS157.set_2 | refine IsS157.far ?_ NB1615_1611.out _ | refine IsS157.far ?_ NB1615_1627.out _) | exact HI1615.out)) (by (with_reducible repeat (first | apply Kd.R_alloc | apply Kd.R_drewN | apply Kd.R_drew)); exact HO_5.out) (by decide)) hk (fun _ h => h.2)) (fun _ h => h.1)); have n1_ := Aside0.mk (KeepBut.blk hk (g' := gb1611) (o := .cells #[.int .i64 0, .int .i64 0] 95 (0, 0)) (by (with_reducible repeat (first | refine blk_drewN ?_ _ | refine blk_drew ?_ | refine blk_alloc ?_ _)); exact BK1611.out) NB1611_1615.out (by simp)); have n2_ := Aside0.mk (KeepBut.blk hk (g' := gb1627) (o := .cells #[.int .i64 t1624, .int .i64 t1625] 95 (0, 0)) (by (with_reducible repeat (first | refine blk_drewN ?_ _ | refine blk_drew ?_ | refine blk_alloc ?_ _)); exact BK1627.out) NB1627_1615.out (by simp)); have n3_ := Aside0.mk (hb); have n4_ := Aside0.mk (hi); clear HO_5; clear BK1611; clear BK1627; clear HB; clear HI1615; have HO_5 := n0_; have BK1611 := n1_; have BK1627 := n2_; have HB := n3_; have HI1615 := n4_; clear n0_ n1_ n2_ n3_ n4_; (try clear hb); (try clear hb2); (try clear hk); (try clear hi)) | ((with_reducible refine gate_callee (f := 122) rfl ?_); refine goesL_ (some 32) rfl rfl Try.func122 (by kernel_rfl) rfl #[.int .i64 (wrap64 (t1631 - 100)), .int .i64 (wrap64 (1 + t1634))] rfl (by (try simp only [List.map_toArray, List.map_cons, List.map_nil]); first | done | rfl | (simp only [List.length_drop, List.length_take]; rfl)) ?_; (with_reducible refine (spec_MakeRatio.calls kj5 (wrap64 (t1631 - 100)) (wrap64 (1 + t1634)) t1637 t1638 t1639 _ A23.out).mono ?_); rintro e w26 ⟨rfl, hb⟩; refine ⟨_, rfl, ?_⟩; have n0_ := Aside0.mk (Kd.R_below (by (with_reducible repeat (first | apply Kd.R_alloc | apply Kd.R_drewN | apply Kd.R_drew)); exact HO_5.out) hb); have n1_ := Aside0.mk (blk_below (g := gb1611) (o := .cells #[.int .i64 0, .int .i64 0] 95 (0, 0)) (by (with_reducible repeat (first | refine blk_drewN ?_ _ | refine blk_drew ?_ | refine blk_alloc ?_ _)); exact BK1611.out) hb); have n2_ := Aside0.mk (blk_below (g := gb1627) (o := .cells #[.int .i64 t1624, .int .i64 t1625] 95 (0, 0)) (by (with_reducible repeat (first | refine blk_drewN ?_ _ | refine blk_drew ?_ | refine blk_alloc ?_ _)); exact BK1627.out) hb); have n3_ := Aside0.mk (IsS157.below (by repeat (first | (with_reducible first | exact HI1615.out | apply IsS157.alloc | apply IsS157.drewN | apply IsS157.drew | apply IsS157.set_1 | apply IsS157.set_2 | refine IsS157.far ?_ NB1615_1611.out _ | refine IsS157.far ?_ NB1615_1627.out _) | exact HI1615.out)) hb); have n4_ := Aside0.mk (below_step (by repeat (first | (with_reducible first | exact HB.out | apply below_alloc | apply pw_below_drewN | apply below_drew1 | refine below_set ?_ (IsS157.ge HI1615.out) | refine below_set ?_ GE1611.out | refine below_set ?_ GE1627.out) | exact HB.out)) hb); clear HO_5; clear BK1611; clear BK1627; clear HI1615; clear HB; have HO_5 := n0_; have BK1611 := n1_; have BK1627 := n2_; have HI1615 := n3_; have HB := n4_; clear n0_ n1_ n2_ n3_ n4_; (try clear hb); (try clear hb2); (try clear hk); (try clear hi); have hnb27 := NB1627_1611.out; have hnc27 := NB1611_1627.out; have hnb28 := NB1627_1615.out; have hnc28 := NB1615_1627.out; have hcz29_0 : w26.cell? ⟨gb1627, 0, none⟩ = some (.int .i64 t1624) := (blk_cell BK1627.out 0).trans rfl; have hcz29_1 : w26.cell? ⟨gb1627, 1, none⟩ = some (.int .i64 t1625) := (blk_cell BK1627.out 1).trans rfl; have hfz29_0 := blk_frozen BK1627.out 0; have hfz29_1 := blk_frozen BK1627.out 1))
    have n0_ : Aside0 (Kd.R k151 151 ((w26.setCell ⟨gb1627, 0, none⟩ (.int .i64 t1637)).setCell ⟨gb1627, 1, none⟩ (.int .i64 t1638)) w.heap.size (fun _ => True) (.slice Ao11 t1616.length co11) t1616) := ⟨by (with_reducible repeat (first | apply Kd.R_alloc | apply Kd.R_drewN | apply Kd.R_drew)); exact Kd.R_mono (Kd.R_far (p := ⟨gb1627, 1, none⟩) (Kd.R_far (p := ⟨gb1627, 0, none⟩) (Kd.R_types HO_5.out BK1627.out (by decide)) (fun _ hk => hk.2) (.int .i64 t1637)) (fun _ hk => hk.2) (.int .i64 t1638)) (fun _ hk => trivial)⟩
    have n1_ : Aside0 (((w26.setCell ⟨gb1627, 0, none⟩ (.int .i64 t1637)).setCell ⟨gb1627, 1, none⟩ (.int .i64 t1638)).heap[gb1611]? = some (.cells #[.int .i64 0, .int .i64 0] 95 (0, 0))) := ⟨by (with_reducible repeat (first | refine blk_drewN ?_ _ | refine blk_drew ?_ | refine blk_alloc ?_ _)); refine blk_far ?_ NB1611_1627.out _; (with_reducible repeat (first | refine blk_drewN ?_ _ | refine blk_drew ?_ | refine blk_alloc ?_ _)); refine blk_far ?_ NB1611_1627.out _; (with_reducible repeat (first | refine blk_drewN ?_ _ | refine blk_drew ?_ | refine blk_alloc ?_ _)); exact BK1611.out⟩
    have n2_ : Aside0 (((w26.setCell ⟨gb1627, 0, none⟩ (.int .i64 t1637)).setCell ⟨gb1627, 1, none⟩ (.int .i64 t1638)).heap[gb1627]? = some (.cells #[.int .i64 t1637, .int .i64 t1638] 95 (0, 0))) := ⟨by (with_reducible repeat (first | refine blk_drewN ?_ _ | refine blk_drew ?_ | refine blk_alloc ?_ _)); refine blk_put (cs := #[.int .i64 t1637, .int .i64 t1625]) ?_ 1 _ rfl; (with_reducible repeat (first | refine blk_drewN ?_ _ | refine blk_drew ?_ | refine blk_alloc ?_ _)); refine blk_put (cs := #[.int .i64 t1624, .int .i64 t1625]) ?_ 0 _ rfl; (with_reducible repeat (first | refine blk_drewN ?_ _ | refine blk_drew ?_ | refine blk_alloc ?_ _)); exact BK1627.out⟩
    have n3_ : Aside0 (IsS157 w ((w26.setCell ⟨gb1627, 0, none⟩ (.int .i64 t1637)).setCell ⟨gb1627, 1, none⟩ (.int .i64 t1638)) g1615 t1612 t1635 t1636) := ⟨by repeat (first | (with_reducible first | exact HI1615.out | apply IsS157.alloc | apply IsS157.drewN | apply IsS157.drew | apply IsS157.set_1 | apply IsS157.set_2 | refine IsS157.far ?_ NB1615_1611.out _ | refine IsS157.far ?_ NB1615_1627.out _) | exact HI1615.out)⟩
    have n4_ : Aside0 (Below w.heap.size w ((w26.setCell ⟨gb1627, 0, none⟩ (.int .i64 t1637)).setCell ⟨gb1627, 1, none⟩ (.int .i64 t1638))) := ⟨by repeat (first | (with_reducible first | exact HB.out | apply below_alloc | apply pw_below_drewN | apply below_drew1 | refine below_set ?_ (IsS157.ge HI1615.out) | refine below_set ?_ GE1611.out | refine below_set ?_ GE1627.out) | exact HB.out)⟩
    (try clear HO_5)
    (try clear BK1611)
    (try clear BK1627)
    (try clear HI1615)
    (try clear HB)
    generalize ((w26.setCell ⟨gb1627, 0, none⟩ (.int .i64 t1637)).setCell ⟨gb1627, 1, none⟩ (.int .i64 t1638)) = w30 at n0_ n1_ n2_ n3_ n4_ ⊢
    have HO_5 := n0_
    have BK1611 := n1_
    have BK1627 := n2_
    have HI1615 := n3_
    have HB := n4_
    clear n0_ n1_ n2_ n3_ n4_
    have n0_ := Aside0.mk (Kd.R_drew HO_5.out)
    have n1_ := Aside0.mk (blk_drew BK1611.out)
    have n2_ := Aside0.mk (blk_drew BK1627.out)
    have n3_ := Aside0.mk (IsS157.drew HI1615.out)
    have n4_ := Aside0.mk (below_drew1 HB.out)
    clear HO_5
    clear BK1611
    clear BK1627
    clear HI1615
    clear HB
    have HO_5 := n0_
    have BK1611 := n1_
    have BK1627 := n2_
    have HI1615 := n3_
    have HB := n4_
    clear n0_ n1_ n2_ n3_ n4_
    refine start_ (n := 4) (S := fun w' => w'.cell? ⟨gb1627, 0, none⟩ = some (.int .i64 t1637) ∧ w'.cell? ⟨gb1627, 1, none⟩ = some (.int .i64 t1638)) (ds := []) #[false, false, false, false] (by kernel_rfl) rfl rfl ⟨(blk_cell BK1627.out 0).trans rfl, (blk_cell BK1627.out 1).trans rfl⟩ (fun hHeld => ?_)
    generalize w30.drew = w31 at HO_5 BK1611 BK1627 HI1615 HB hHeld ⊢
    refine pure_ (i := 0) (N := some 35) (v := ?_) (a' := ?_) #[true, false, false, false] rfl rfl (by kernel_rfl) (fun _ _ _ h => h) (Or.inl ⟨by rfl, ?_⟩) ?_ ?_
    rotate_left
    ·
     intro w'
     go_simp
     with_reducible rfl
    rotate_left
    ·
     simp only [Act.put, List.setIfInBounds_toArray, List.set_cons_zero, List.set_cons_succ, i64_w, i32_w]
     rfl
    refine pure_ (i := 2) (N := some 2) (v := ?_) (a' := ?_) #[true, false, true, false] rfl rfl (by kernel_rfl) (fun _ _ _ h => h) (Or.inl ⟨by rfl, ?_⟩) ?_ ?_
    rotate_left
    ·
     intro w'
     go_simp
     with_reducible rfl
    rotate_left
    ·
     simp only [Act.put, List.setIfInBounds_toArray, List.set_cons_zero, List.set_cons_succ, i64_w, i32_w]
     rfl
    refine take_ (i := 1) (N := some 36) (v := ?_) (a' := ?_) #[true, true, true, false] rfl rfl (by kernel_rfl) (fun _ _ _ h => h) (Or.inl ⟨by rfl, ?_⟩) hHeld ?_ ?_
    rotate_left
    ·
     rintro w' ⟨s0, s1⟩
     go_simp
     with_reducible rfl
    rotate_left
    ·
     simp only [Act.put, List.setIfInBounds_toArray, List.set_cons_zero, List.set_cons_succ, i64_w, i32_w]
     rfl
    refine one_ (i := 3) (N := none) #[true, true, true, true] rfl rfl (by kernel_rfl) (by decide) (fun K hK => ?_)
    have hs32 : w31.cell? ⟨gb1611, 0, none⟩ = some (.int .i64 0) := (blk_cell BK1611.out 0).trans rfl
    have hfs32 := blk_frozen BK1611.out 0
    have hns32_1 := NB1627_1611.out
    have hms32_1 := NB1611_1627.out
    have hs33 : w31.cell? ⟨gb1611, 1, none⟩ = some (.int .i64 0) := (blk_cell BK1611.out 1).trans rfl
    have hfs33 := blk_frozen BK1611.out 1
    have hns33_1 := NB1627_1611.out
    have hms33_1 := NB1611_1627.out
    refine skip_ (w1 := ?_) (by rfl) rfl ?_ ?_
    rotate_left
    ·
     go_simp
     rfl
    refine hK.out _ _ ⟨((cell_far (p := ⟨gb1611, _, none⟩) NB1627_1611.out _).trans (((cell_far (p := ⟨gb1611, _, none⟩) NB1627_1611.out _).trans (hHeld.1)))), ((cell_far (p := ⟨gb1611, _, none⟩) NB1627_1611.out _).trans (((cell_far (p := ⟨gb1611, _, none⟩) NB1627_1611.out _).trans (hHeld.2))))⟩ (fun hHeld => ?_)
    clear hK K
    refine done_ (by kernel_rfl) ?_
    try go_wp2
    refine bodyPost_ret (results_tc rfl _ _ gb1611 95 #[.int .i64 t1637, .int .i64 t1638] (0, 0) _ rfl (by (with_reducible repeat (first | refine blk_drewN ?_ _ | refine blk_drew ?_ | refine blk_alloc ?_ _)); refine blk_put (cs := #[.int .i64 t1637, .int .i64 0]) ?_ 1 _ rfl; (with_reducible repeat (first | refine blk_drewN ?_ _ | refine blk_drew ?_ | refine blk_alloc ?_ _)); refine blk_put (cs := #[.int .i64 0, .int .i64 0]) ?_ 0 _ rfl; (with_reducible repeat (first | refine blk_drewN ?_ _ | refine blk_drew ?_ | refine blk_alloc ?_ _)); exact BK1611.out) Try.underlying95 rfl (by kernel_rfl)) rfl ?_
    exact ⟨_, by first | rfl | (simp [errW_none, errW_some] <;> rfl) | (simp [*, errW_none, errW_some] <;> rfl), by (with_reducible repeat (first | apply Kd.R_alloc | apply Kd.R_drewN | apply Kd.R_drew)); exact Kd.R_mono (Kd.R_far (p := ⟨gb1611, 1, none⟩) (Kd.R_far (p := ⟨gb1611, 0, none⟩) (Kd.R_types HO_5.out BK1611.out (by decide)) (fun _ hk => hk.2) (.int .i64 t1637)) (fun _ hk => hk.2) (.int .i64 t1638)) (fun _ hk => trivial), by repeat (first | (with_reducible first | exact HB.out | apply below_alloc | apply pw_below_drewN | apply below_drew1 | refine below_set ?_ (IsS157.ge HI1615.out) | refine below_set ?_ GE1611.out | refine below_set ?_ GE1627.out) | exact HB.out)⟩
   ·
    replace c20 := Bool.eq_false_iff.mpr c20
    subst c20
    rw [if_neg (show ¬ (false = true) by decide)] at H
    simp only [Option.some.injEq, Prod.mk.injEq] at H
    obtain ⟨rfl, rfl, rfl⟩ := H
    try go_wp2
    have n0_ := Aside0.mk (Kd.R_drew HO_5.out)
    have n1_ := Aside0.mk (blk_drew BK1611.out)
    have n2_ := Aside0.mk (blk_drew BK1627.out)
    have n3_ := Aside0.mk (IsS157.drew HI1615.out)
    have n4_ := Aside0.mk (below_drew1 HB.out)
    clear HO_5
    clear BK1611
    clear BK1627
    clear HI1615
    clear HB
    have HO_5 := n0_
    have BK1611 := n1_
    have BK1627 := n2_
    have HI1615 := n3_
    have HB := n4_
    clear n0_ n1_ n2_ n3_ n4_
    refine start_ (n := 4) (S := fun w' => w'.cell? ⟨gb1627, 0, none⟩ = some (.int .i64 t1624) ∧ w'.cell? ⟨gb1627, 1, none⟩ = some (.int .i64 t1625)) (ds := []) #[false, false, false, false] (by kernel_rfl) rfl rfl ⟨(blk_cell BK1627.out 0).trans rfl, (blk_cell BK1627.out 1).trans rfl⟩ (fun hHeld => ?_)
    generalize wc.drew = w34 at HO_5 BK1611 BK1627 HI1615 HB hHeld ⊢
    refine pure_ (i := 0) (N := some 35) (v := ?_) (a' := ?_) #[true, false, false, false] rfl rfl (by kernel_rfl) (fun _ _ _ h => h) (Or.inl ⟨by rfl, ?_⟩) ?_ ?_
    rotate_left
    ·
     intro w'
     go_simp
     with_reducible rfl
    rotate_left
    ·
     simp only [Act.put, List.setIfInBounds_toArray, List.set_cons_zero, List.set_cons_succ, i64_w, i32_w]
     rfl
    refine pure_ (i := 2) (N := some 2) (v := ?_) (a' := ?_) #[true, false, true, false] rfl rfl (by kernel_rfl) (fun _ _ _ h => h) (Or.inl ⟨by rfl, ?_⟩) ?_ ?_
    rotate_left
    ·
     intro w'
     go_simp
     with_reducible rfl
    rotate_left
    ·
     simp only [Act.put, List.setIfInBounds_toArray, List.set_cons_zero, List.set_cons_succ, i64_w, i32_w]
     rfl
    refine take_ (i := 1) (N := some 36) (v := ?_) (a' := ?_) #[true, true, true, false] rfl rfl (by kernel_rfl) (fun _ _ _ h => h) (Or.inl ⟨by rfl, ?_⟩) hHeld ?_ ?_
    rotate_left
    ·
     rintro w' ⟨s0, s1⟩
     go_simp
     with_reducible rfl
    rotate_left
    ·
     simp only [Act.put, List.setIfInBounds_toArray, List.set_cons_zero, List.set_cons_succ, i64_w, i32_w]
     rfl
    refine one_ (i := 3) (N := none) #[true, true, true, true] rfl rfl (by kernel_rfl) (by decide) (fun K hK => ?_)
    have hs35 : w34.cell? ⟨gb1611, 0, none⟩ = some (.int .i64 0) := (blk_cell BK1611.out 0).trans rfl
    have hfs35 := blk_frozen BK1611.out 0
    have hns35_1 := NB1627_1611.out
    have hms35_1 := NB1611_1627.out
    have hs36 : w34.cell? ⟨gb1611, 1, none⟩ = some (.int .i64 0) := (blk_cell BK1611.out 1).trans rfl
    have hfs36 := blk_frozen BK1611.out 1
    have hns36_1 := NB1627_1611.out
    have hms36_1 := NB1611_1627.out
    refine skip_ (w1 := ?_) (by rfl) rfl ?_ ?_
    rotate_left
    ·
     go_simp
     rfl
    refine hK.out _ _ ⟨((cell_far (p := ⟨gb1611, _, none⟩) NB1627_1611.out _).trans (((cell_far (p := ⟨gb1611, _, none⟩) NB1627_1611.out _).trans (hHeld.1)))), ((cell_far (p := ⟨gb1611, _, none⟩) NB1627_1611.out _).trans (((cell_far (p := ⟨gb1611, _, none⟩) NB1627_1611.out _).trans (hHeld.2))))⟩ (fun hHeld => ?_)
    clear hK K
    refine done_ (by kernel_rfl) ?_
    try go_wp2
    refine bodyPost_ret (results_tc rfl _ _ gb1611 95 #[.int .i64 t1624, .int .i64 t1625] (0, 0) _ rfl (by (with_reducible repeat (first | refine blk_drewN ?_ _ | refine blk_drew ?_ | refine blk_alloc ?_ _)); refine blk_put (cs := #[.int .i64 t1624, .int .i64 0]) ?_ 1 _ rfl; (with_reducible repeat (first | refine blk_drewN ?_ _ | refine blk_drew ?_ | refine blk_alloc ?_ _)); refine blk_put (cs := #[.int .i64 0, .int .i64 0]) ?_ 0 _ rfl; (with_reducible repeat (first | refine blk_drewN ?_ _ | refine blk_drew ?_ | refine blk_alloc ?_ _)); exact BK1611.out) Try.underlying95 rfl (by kernel_rfl)) rfl ?_
    exact ⟨_, by first | rfl | (simp [errW_none, errW_some] <;> rfl) | (simp [*, errW_none, errW_some] <;> rfl), by (with_reducible repeat (first | apply Kd.R_alloc | apply Kd.R_drewN | apply Kd.R_drew)); exact Kd.R_mono (Kd.R_far (p := ⟨gb1611, 1, none⟩) (Kd.R_far (p := ⟨gb1611, 0, none⟩) (Kd.R_types HO_5.out BK1611.out (by decide)) (fun _ hk => hk.2) (.int .i64 t1624)) (fun _ hk => hk.2) (.int .i64 t1625)) (fun _ hk => trivial), by repeat (first | (with_reducible first | exact HB.out | apply below_alloc | apply pw_below_drewN | apply below_drew1 | refine below_set ?_ (IsS157.ge HI1615.out) | refine below_set ?_ GE1611.out | refine below_set ?_ GE1627.out) | exact HB.out)⟩
end Go.Proofs.Ytbhlmeghbfmgiaa.F

namespace Go.Proofs.Ytbhlmeghbfmgiaa.F
open Go.RowKit Go.Proofs.YtbhlmeghbfmgiaaW.PrintWords Go.Proofs.YtbhlmeghbfmgiaaW.PrintLast Go.Proofs.YtbhlmeghbfmgiaaW.PrintMore
attribute [local go_sem] max2_int min2_int max_two min_two max_three min_three max_four min_four
set_option linter.unusedVariables false
set_option linter.unusedSimpArgs false
def spec_DrawScaleTempo.f (k : Nat) (l0 : List Int) : Option ((List (S151)) × Int) := (spec_l1New.f k l0).bind fun bt1640 => ((spec_l11Any.f k bt1640.1 bt1640.2.1 bt1640.2.2).bind fun bt1644 => ((spec_l1Int.f bt1640.1 bt1644.2.1 bt1644.2.2 (([100, 50, 80, 150, 300, 1000, 1001, 0, 1] : List Int))).bind fun bt1652 => (some (bt1644.1, bt1652.1))))
set_option maxHeartbeats 8000000 in
set_option maxRecDepth 100000 in
theorem spec_DrawScaleTempo.calls (k : Nat) (A0 : Option Addr) (c0 : Nat) (l0 : List Int) (r1 : List (S151)) (r2 : Int) (w : World) (hr0 : Kd.C (Kd.int .u8) w A0 l0.length l0) (hc0 : l0.length ≤ c0) (h : spec_DrawScaleTempo.f k l0 = some (r1, r2)) :
  Calls Try.prog 63 #[.slice A0 l0.length c0] w fun e w' => ∃ v0_ : Value, e = .returned (.tuple #[v0_, .int .i64 r2]) ∧ Kd.R k151 151 w' w.heap.size (fun _ => True) v0_ r1 ∧ Below w.heap.size w w' := by
 have HR0 := Aside0.mk hr0
 have HC0 := Aside0.mk hc0
 clear hr0 hc0
 have HB := Aside0.mk (Below.refl w.heap.size w)
 have H : ((spec_l1New.f k l0).bind fun bt1640 => ((spec_l11Any.f k bt1640.1 bt1640.2.1 bt1640.2.2).bind fun bt1644 => ((spec_l1Int.f bt1640.1 bt1644.2.1 bt1644.2.2 (([100, 50, 80, 150, 300, 1000, 1001, 0, 1] : List Int))).bind fun bt1652 => (some (bt1644.1, bt1652.1))))) = some (r1, r2) := h
 clear h
 replace H := Option.bind_eq_some_iff.mp H
 obtain ⟨⟨t1640, t1641, t1642⟩, A20, H⟩ := H
 try dsimp only at H
 have A2 := Aside0.mk A20
 clear A20
 replace H := Option.bind_eq_some_iff.mp H
 obtain ⟨⟨t1644, t1647, t1648⟩, A30, H⟩ := H
 try dsimp only at H
 have A3 := Aside0.mk A30
 clear A30
 obtain ⟨y1649, hy1649⟩ : ∃ y_ : List Int, y_ = (([100, 50, 80, 150, 300, 1000, 1001, 0, 1] : List Int)) := ⟨_, rfl⟩
 replace H : ((spec_l1Int.f t1640 t1647 t1648 y1649).bind fun bt1652 => (some (t1644, bt1652.1))) = some (r1, r2) := by first | (rw [hy1649]; with_reducible exact H) | (have H2_ := (Option.bind_some _ _).symm.trans H; rw [hy1649]; with_reducible exact H2_) | (have H2_ := (Option.bind_some _ _).symm.trans H; with_reducible exact H2_) | with_reducible exact H | (rw [hy1649]; exact H) | exact H
 have Ny1649 := Aside0.mk hy1649
 clear hy1649
 replace H := Option.bind_eq_some_iff.mp H
 obtain ⟨⟨t1652, t1653, t1654⟩, A40, H⟩ := H
 try dsimp only at H
 have A4 := Aside0.mk A40
 clear A40
 simp only [Option.some.injEq, Prod.mk.injEq] at H
 obtain ⟨rfl, rfl⟩ := H
 go_enter Try.func63, Try.ntmps63
 go_wp2_with (first | ((with_reducible refine gate_callee (f := 74) rfl ?_); refine goesL_ (some 7) rfl rfl Try.func74 (by kernel_rfl) rfl #[.slice A0 l0.length c0] rfl (by (try simp only [List.map_toArray, List.map_cons, List.map_nil]); first | done | rfl | (simp only [List.length_drop, List.length_take]; rfl)) ?_; (with_reducible refine (spec_l1New.calls k _ _ l0 t1640 t1641 t1642 w _ ?side1 ?side2 ?side3 A2.out).mono ?_); (case side1 => repeat (first | (with_reducible first | exact HB.out | apply below_alloc | apply pw_below_drewN | apply below_drew1) | exact HB.out)); (case side2 => exact HR0.out); (case side3 => exact HC0.out); rintro e w5 ⟨g1643, rfl, hi, hb, hb2⟩; refine ⟨_, rfl, ?_⟩; have n0_ := Aside0.mk (hb); have n1_ := Aside0.mk (hi); clear HB; have HB := n0_; have HI1643 := n1_; clear n0_ n1_; (try clear hb); (try clear hb2); (try clear hk); (try clear hi)) | ((with_reducible refine gate_callee (f := 94) rfl ?_); refine goesL_ (some 9) rfl rfl Try.func94 (by kernel_rfl) rfl #[.pointer (some ⟨g1643, 0, none⟩)] rfl (by (try simp only [List.map_toArray, List.map_cons, List.map_nil]); first | done | rfl | (simp only [List.length_drop, List.length_take]; rfl)) ?_; (with_reducible refine (spec_l11Any.calls k g1643 t1640 t1641 t1642 t1644 t1647 t1648 w _ ?side1 ?side2 A3.out).mono ?_); (case side1 => repeat (first | (with_reducible first | exact HI1643.out | apply IsS157.alloc | apply IsS157.drewN | apply IsS157.drew | apply IsS157.set_1 | apply IsS157.set_2) | exact HI1643.out)); (case side2 => repeat (first | (with_reducible first | exact HB.out | apply below_alloc | apply pw_below_drewN | apply below_drew1 | refine below_set ?_ (IsS157.ge HI1643.out)) | exact HB.out)); rintro e w6 ⟨v1645, rfl, ho0, hi, hb, hk⟩; refine ⟨_, rfl, ?_⟩; have n0_ := Aside0.mk (Kd.R_lower ho0 (below_size (by repeat (first | (with_reducible first | exact HB.out | apply below_alloc | apply pw_below_drewN | apply below_drew1 | refine below_set ?_ (IsS157.ge HI1643.out)) | exact HB.out)))); have n1_ := Aside0.mk (hb); have n2_ := Aside0.mk (hi); clear HB; clear HI1643; have HO1646 := n0_; have HB := n1_; have HI1643 := n2_; clear n0_ n1_ n2_; (try clear hb); (try clear hb2); (try clear hk); (try clear hi); (try clear ho0)) | ((with_reducible refine gate_dst (N := 12) rfl ?_); refine Kd.R_lit (Kd.int .i64) _ 3 ?hg (N := 12) ?hd (xs := ([100, 50, 80, 150, 300, 1000, 1001, 0, 1] : List Int)) (inner := [.int .i64 100, .int .i64 50, .int .i64 80, .int .i64 150, .int .i64 300, .int .i64 1000, .int .i64 1001, .int .i64 0, .int .i64 1]) (ok := fun _ => True) (okp := fun _ => True) ?hr ?hp (fun _ hk => hk) trivial (Below.refl _ _) (Nat.le_refl _) (by simp) ?_; (case hd => rfl); (case hg => rfl); (case hr => first | (go_simp; done) | (go_simp; rfl)); (case hp => exact (Reps.one (show Kd.M (Kd.int .i64) _ _ _ 100 [.int .i64 100] from rfl) (Reps.one (show Kd.M (Kd.int .i64) _ _ _ 50 [.int .i64 50] from rfl) (Reps.one (show Kd.M (Kd.int .i64) _ _ _ 80 [.int .i64 80] from rfl) (Reps.one (show Kd.M (Kd.int .i64) _ _ _ 150 [.int .i64 150] from rfl) (Reps.one (show Kd.M (Kd.int .i64) _ _ _ 300 [.int .i64 300] from rfl) (Reps.one (show Kd.M (Kd.int .i64) _ _ _ 1000 [.int .i64 1000] from rfl) (Reps.one (show Kd.M (Kd.int .i64) _ _ _ 1001 [.int .i64 1001] from rfl) (Reps.one (show Kd.M (Kd.int .i64) _ _ _ 0 [.int .i64 0] from rfl) (Reps.one (show Kd.M (Kd.int .i64) _ _ _ 1 [.int .i64 1] from rfl) (Reps.none _ _))))))))))); intro v1650 w7 ho8 hb hg_ hnew_; clear hg_ hnew_; (first | rw [← Ny1649.out] at ho8 | (simp only [Int.reduceToNat] at ho8; rw [← Ny1649.out] at ho8)); have n0_ := Aside0.mk (Kd.R_below (by (with_reducible repeat (first | apply Kd.R_alloc | apply Kd.R_drewN | apply Kd.R_drew)); exact HO1646.out) hb); have n1_ := Aside0.mk (Kd.R_lower ho8 (below_size (by repeat (first | (with_reducible first | exact HB.out | apply below_alloc | apply pw_below_drewN | apply below_drew1 | refine below_set ?_ (IsS157.ge HI1643.out)) | exact HB.out)))); have n2_ := Aside0.mk (IsS157.below (by repeat (first | (with_reducible first | exact HI1643.out | apply IsS157.alloc | apply IsS157.drewN | apply IsS157.drew | apply IsS157.set_1 | apply IsS157.set_2) | exact HI1643.out)) hb); have n3_ := Aside0.mk (below_step (by repeat (first | (with_reducible first | exact HB.out | apply below_alloc | apply pw_below_drewN | apply below_drew1 | refine below_set ?_ (IsS157.ge HI1643.out)) | exact HB.out)) hb); clear HO1646; clear HI1643; clear HB; have HO1646 := n0_; have HO1651 := n1_; have HI1643 := n2_; have HB := n3_; clear n0_ n1_ n2_ n3_; clear hb ho8; obtain ⟨Ao9, co9, eo9⟩ := Kd.R_slice HO1651.out; subst eo9) | ((with_reducible refine gate_callee (f := 78) rfl ?_); refine goesL_ (some 13) rfl rfl Try.func78 (by kernel_rfl) rfl #[.pointer (some ⟨g1643, 0, none⟩), .slice Ao9 y1649.length co9] rfl (by (try simp only [List.map_toArray, List.map_cons, List.map_nil]); first | done | rfl | (simp only [List.length_drop, List.length_take]; rfl)) ?_; (with_reducible refine (spec_l1Int.calls g1643 t1640 t1647 t1648 _ _ y1649 t1652 t1653 t1654 w _ ?side1 ?side2 ?side3 ?side4 ?side5 A4.out).mono ?_); (case side1 => repeat (first | (with_reducible first | exact HI1643.out | apply IsS157.alloc | apply IsS157.drewN | apply IsS157.drew | apply IsS157.set_1 | apply IsS157.set_2) | exact HI1643.out)); (case side2 => repeat (first | (with_reducible first | exact HB.out | apply below_alloc | apply pw_below_drewN | apply below_drew1 | refine below_set ?_ (IsS157.ge HI1643.out)) | exact HB.out)); (case side3 => repeat (first | exact (Kd.R_reads' HO1651.out).2.2 | (with_reducible refine Kd.C_alloc ?_ _) | (with_reducible refine Kd.C_drewN ?_ _) | (with_reducible refine Kd.C_drew ?_))); (case side4 => exact (Kd.R_reads' HO1651.out).2.1); (case side5 => exact far_slice (IsS157.own_ne HI1643.out HO1651.out (by decide))); rintro e w10 ⟨rfl, hi, hb, hk⟩; refine ⟨_, rfl, ?_⟩; have n0_ := Aside0.mk (Kd.R_mono (Kd.R_keep (IsS157.apart (show IsS157 w _ g1643 t1640 t1647 t1648 from by repeat (first | (with_reducible first | exact HI1643.out | apply IsS157.alloc | apply IsS157.drewN | apply IsS157.drew | apply IsS157.set_1 | apply IsS157.set_2) | exact HI1643.out)) (by (with_reducible repeat (first | apply Kd.R_alloc | apply Kd.R_drewN | apply Kd.R_drew)); exact HO1646.out) (by decide)) hk (fun _ h => h.2)) (fun _ h => h.1)); have n1_ := Aside0.mk (Kd.R_mono (Kd.R_keep (IsS157.apart (show IsS157 w _ g1643 t1640 t1647 t1648 from by repeat (first | (with_reducible first | exact HI1643.out | apply IsS157.alloc | apply IsS157.drewN | apply IsS157.drew | apply IsS157.set_1 | apply IsS157.set_2) | exact HI1643.out)) (by (with_reducible repeat (first | apply Kd.R_alloc | apply Kd.R_drewN | apply Kd.R_drew)); exact HO1651.out) (by decide)) hk (fun _ h => h.2)) (fun _ h => h.1)); have n2_ := Aside0.mk (hb); have n3_ := Aside0.mk (hi); clear HO1646; clear HO1651; clear HB; clear HI1643; have HO1646 := n0_; have HO1651 := n1_; have HB := n2_; have HI1643 := n3_; clear n0_ n1_ n2_ n3_; (try clear hb); (try clear hb2); (try clear hk); (try clear hi)))
 go_ret2
 exact ⟨_, by first | rfl | (simp [errW_none, errW_some] <;> rfl) | (simp [*, errW_none, errW_some] <;> rfl), by (with_reducible repeat (first | apply Kd.R_alloc | apply Kd.R_drewN | apply Kd.R_drew)); exact HO1646.out, by repeat (first | (with_reducible first | exact HB.out | apply below_alloc | apply pw_below_drewN | apply below_drew1 | refine below_set ?_ (IsS157.ge HI1643.out)) | exact HB.out)⟩
end Go.Proofs.Ytbhlmeghbfmgiaa.F

namespace Go.Proofs.Ytbhlmeghbfmgiaa.F
open Go.RowKit Go.Proofs.YtbhlmeghbfmgiaaW.PrintWords Go.Proofs.YtbhlmeghbfmgiaaW.PrintLast Go.Proofs.YtbhlmeghbfmgiaaW.PrintMore
attribute [local go_sem] max2_int min2_int max_two min_two max_three min_three max_four min_four
set_option linter.unusedVariables false
set_option linter.unusedSimpArgs false
def impl_Tempo.f (l0 : List (S151)) : Option ((List (S151))) := (some (([] : List (S151)) : List (S151))).bind fun y1655 => (if y1655.length + l0.length < 8796093022208 then (some (y1655 ++ l0)) else (none))
set_option maxHeartbeats 8000000 in
set_option maxRecDepth 100000 in
theorem impl_Tempo.calls (A0 : Option Addr) (c0 : Nat) (l0 : List (S151)) (r : List (S151)) (w : World) (hr0 : Kd.C k151 w A0 l0.length l0) (hc0 : l0.length ≤ c0) (h : impl_Tempo.f l0 = some r) :
  Calls Try.prog 124 #[.slice A0 l0.length c0] w fun e w' => ∃ v0_ : Value, e = .returned (v0_) ∧ Kd.R k151 151 w' w.heap.size (fun _ => True) v0_ r ∧ Below w.heap.size w w' := by
 have HR0 := Aside0.mk hr0
 have HC0 := Aside0.mk hc0
 clear hr0 hc0
 have HB := Aside0.mk (Below.refl w.heap.size w)
 have H : ((some (([] : List (S151)) : List (S151))).bind fun y1655 => (if y1655.length + l0.length < 8796093022208 then (some (y1655 ++ l0)) else (none))) = some r := h
 clear h
 obtain ⟨y1655, hy1655⟩ : ∃ y_ : List (S151), y_ = (([] : List (S151))) := ⟨_, rfl⟩
 replace H : (if y1655.length + l0.length < 8796093022208 then (some (y1655 ++ l0)) else (none)) = some r := by first | (rw [hy1655]; with_reducible exact H) | (have H2_ := (Option.bind_some _ _).symm.trans H; rw [hy1655]; with_reducible exact H2_) | (have H2_ := (Option.bind_some _ _).symm.trans H; with_reducible exact H2_) | with_reducible exact H | (rw [hy1655]; exact H) | exact H
 have Ny1655 := Aside0.mk hy1655
 clear hy1655
 by_cases c2 : y1655.length + l0.length < 8796093022208
 ·
  rw [if_pos c2] at H
  have LMc2 := Aside0.mk c2
  clear c2
  obtain ⟨y1658, hy1658⟩ : ∃ y_ : List (S151), y_ = (y1655 ++ l0) := ⟨_, rfl⟩
  replace H : (some y1658) = some r := by first | (rw [hy1658]; with_reducible exact H) | (have H2_ := (Option.bind_some _ _).symm.trans H; rw [hy1658]; with_reducible exact H2_) | (have H2_ := (Option.bind_some _ _).symm.trans H; with_reducible exact H2_) | with_reducible exact H | (rw [hy1658]; exact H) | exact H
  have Ny1658 := Aside0.mk hy1658
  clear hy1658
  obtain rfl := Option.some.inj H
  go_enter Try.func124, Try.ntmps124
  go_wp2_with (first | ((with_reducible refine gate_dst (N := 3) rfl ?_); refine Kd.R_lit k151 _ 151 ?hg (N := 3) ?hd (xs := ([] : List (S151))) (inner := []) (ok := fun _ => True) (okp := fun _ => True) ?hr ?hp (fun _ hk => hk) trivial (Below.refl _ _) (Nat.le_refl _) (by simp) ?_; (case hd => rfl); (case hg => rfl); (case hr => first | (go_simp; done) | (go_simp; rfl)); (case hp => exact (Reps.none _ _)); intro v1656 w3 ho4 hb hg_ hnew_; clear hg_ hnew_; (first | rw [← Ny1655.out] at ho4 | (simp only [Int.reduceToNat] at ho4; rw [← Ny1655.out] at ho4)); have n0_ := Aside0.mk (Kd.R_lower ho4 (below_size (by repeat (first | (with_reducible first | exact HB.out | apply below_alloc | apply pw_below_drewN | apply below_drew1) | exact HB.out)))); have n1_ := Aside0.mk (below_step (by repeat (first | (with_reducible first | exact HB.out | apply below_alloc | apply pw_below_drewN | apply below_drew1) | exact HB.out)) hb); clear HB; have HO1657 := n0_; have HB := n1_; clear n0_ n1_; clear hb ho4) | ((with_reducible refine gate_builtin (b := .append) (xs := #[.tmp 3, .tmp 4]) rfl ?_); at_builtin; refine Kd.R_append_rows k151 (w0 := w) w.heap.size rfl (.tmp 3) (.tmp 4) 41 151 (.agg #[(.int .i64 0), (.int .i64 0)]) 16 rfl Try.underlying41 info151 rfl (by decide) (by omega) v1656 y1655 l0 _ _ _ (fun _ => True) (fun _ => False) rfl rfl ?aO ?aR (fun _ _ h => h) (fun _ h => h.elim) ?aF ?aB ?aS ?aL ?_; (case aR => repeat (first | exact (Kd.C_below HR0.out HB.out) | (with_reducible refine Kd.C_alloc ?_ _) | (with_reducible refine Kd.C_drewN ?_ _) | (with_reducible refine Kd.C_drew ?_))); (case aB => exact (by repeat (first | (with_reducible first | exact HB.out | apply below_alloc | apply pw_below_drewN | apply below_drew1) | exact HB.out))); (case aF => exact (fun _ _ => trivial)); (case aO => exact (by (with_reducible repeat (first | apply Kd.R_alloc | apply Kd.R_drewN | apply Kd.R_drew)); exact HO1657.out)); (case aS => exact (below_size (by repeat (first | (with_reducible first | exact HB.out | apply below_alloc | apply pw_below_drewN | apply below_drew1) | exact HB.out)))); (case aL => have := LMc2.out; omega); intro v1659 w5 ho hb hg hat; rw [← Ny1658.out] at ho; have n0_ := Aside0.mk (hb); have n1_ := Aside0.mk (ho); clear HB; clear HO1657; have HB := n0_; have HO1660 := n1_; clear n0_ n1_; clear ho hb hg hat))
  go_ret
  exact ⟨_, by first | rfl | (simp [errW_none, errW_some] <;> rfl) | (simp [*, errW_none, errW_some] <;> rfl), by (with_reducible repeat (first | apply Kd.R_alloc | apply Kd.R_drewN | apply Kd.R_drew)); exact HO1660.out, by repeat (first | (with_reducible first | exact HB.out | apply below_alloc | apply pw_below_drewN | apply below_drew1) | exact HB.out)⟩
 ·
  rw [if_neg c2] at H
  exact absurd H (by simp)
end Go.Proofs.Ytbhlmeghbfmgiaa.F

namespace Go.Proofs.Ytbhlmeghbfmgiaa.F
open Go.RowKit Go.Proofs.YtbhlmeghbfmgiaaW.PrintWords Go.Proofs.YtbhlmeghbfmgiaaW.PrintLast Go.Proofs.YtbhlmeghbfmgiaaW.PrintMore
attribute [local go_sem] max2_int min2_int max_two min_two max_three min_three max_four min_four
set_option linter.unusedVariables false
set_option linter.unusedSimpArgs false
mutual
def impl_ScaleTempo.j0 : Nat → List (S151) → Int → List (S151) → Bool → Option ((List (S151)) × Bool)
 | 0, _, _, _, _ => none
 | k + 1, x0, x1, x6, x17 => if x17 = true then (some (x6, false)) else (impl_ScaleTempo.l0 k x0 x1 x6 (x6.length : Int) 0)
def impl_ScaleTempo.l0 : Nat → List (S151) → Int → List (S151) → Int → Int → Option ((List (S151)) × Bool)
 | 0, _, _, _, _, _ => none
 | k + 1, x0, x1, x6, x20, x21 => if x21 < x20 then (if 0 ≤ x21 then (if x21 < (x6.length : Int) then (impl_ScaleTempo.l0 k x0 x1 (x6.set (x21 : Int).toNat (⟨(rd_T151 x6 x21).f0, wrap64 (Int.tdiv (wrap64 (((rd_T151 x6 x21).f1) * x1)) 100)⟩ : S151)) x20 (wrap64 (x21 + 1))) else (none)) else (none)) else ((impl_IsTempo.f k x6).bind fun t1668 => (if t1668 = true then (some (x6, true)) else ((impl_Tempo.f x0).bind fun t1669 => (some (t1669, false)))))
end
def impl_ScaleTempo.f (k : Nat) (l0 : List (S151)) (a1 : Int) : Option ((List (S151)) × Bool) := (impl_Tempo.f l0).bind fun t1661 => ((impl_IsTempo.f k l0).bind fun t1664 => (if t1664 = true then ((impl_InRange.f a1 1 1000).bind fun t1665 => (impl_ScaleTempo.j0 k l0 a1 t1661 (!t1665))) else (impl_ScaleTempo.j0 k l0 a1 t1661 true)))
set_option maxHeartbeats 8000000 in
set_option maxRecDepth 100000 in
theorem impl_ScaleTempo.calls (k : Nat) (A0 : Option Addr) (c0 : Nat) (l0 : List (S151)) (a1 : Int) (r1 : List (S151)) (r2 : Bool) (w : World) (hr0 : Kd.C k151 w A0 l0.length l0) (hc0 : l0.length ≤ c0) (h : impl_ScaleTempo.f k l0 a1 = some (r1, r2)) :
  Calls Try.prog 64 #[.slice A0 l0.length c0, .int .i64 a1] w fun e w' => ∃ v0_ : Value, e = .returned (.tuple #[v0_, .bool r2]) ∧ Kd.R k151 151 w' w.heap.size (fun _ => True) v0_ r1 ∧ Below w.heap.size w w' := by
 have HR0 := Aside0.mk hr0
 have HC0 := Aside0.mk hc0
 clear hr0 hc0
 have HB := Aside0.mk (Below.refl w.heap.size w)
 have H : ((impl_Tempo.f l0).bind fun t1661 => ((impl_IsTempo.f k l0).bind fun t1664 => (if t1664 = true then ((impl_InRange.f a1 1 1000).bind fun t1665 => (impl_ScaleTempo.j0 k l0 a1 t1661 (!t1665))) else (impl_ScaleTempo.j0 k l0 a1 t1661 true)))) = some (r1, r2) := h
 clear h
 replace H := Option.bind_eq_some_iff.mp H
 obtain ⟨t1661, A30, H⟩ := H
 try dsimp only at H
 have A3 := Aside0.mk A30
 clear A30
 have HC4 := Aside0.mk H
 clear H
 go_enter Try.func64, Try.ntmps64
 go_upto_region 2 with (first | ((with_reducible refine gate_callee (f := 124) rfl ?_); refine goesL_ (some 9) rfl rfl Try.func124 (by kernel_rfl) rfl #[.slice A0 l0.length c0] rfl (by (try simp only [List.map_toArray, List.map_cons, List.map_nil]); first | done | rfl | (simp only [List.length_drop, List.length_take]; rfl)) ?_; (with_reducible refine (impl_Tempo.calls _ _ l0 t1661 _ ?side1 ?side2 A3.out).mono ?_); (case side1 => repeat (first | exact HR0.out | (with_reducible refine Kd.C_alloc ?_ _) | (with_reducible refine Kd.C_drewN ?_ _) | (with_reducible refine Kd.C_drew ?_))); (case side2 => exact HC0.out); rintro e w5 ⟨v1662, rfl, ho0, hb⟩; refine ⟨_, rfl, ?_⟩; have n0_ := Aside0.mk (Kd.R_lower ho0 (below_size (by repeat (first | (with_reducible first | exact HB.out | apply below_alloc | apply pw_below_drewN | apply below_drew1) | exact HB.out)))); have n1_ := Aside0.mk (below_step (by repeat (first | (with_reducible first | exact HB.out | apply below_alloc | apply pw_below_drewN | apply below_drew1) | exact HB.out)) hb); clear HB; have HO1663 := n0_; have HB := n1_; clear n0_ n1_; (try clear hb); (try clear hb2); (try clear hk); (try clear hi); (try clear ho0)))
 (try simp only [Act.put, List.setIfInBounds_toArray, List.set_cons_zero, List.set_cons_succ])
 go_cut [17] (fun v17 wc => ∃ (kq : Nat) (x17_3 : Bool), v17 = .bool x17_3 ∧ Aside0 (impl_ScaleTempo.j0 kq l0 a1 t1661 x17_3 = some (r1, r2)) ∧ Aside0 (kq ≤ k) ∧ Aside0 (Kd.R k151 151 wc w.heap.size (fun _ => True) v1662 t1661) ∧ Aside0 (Below w.heap.size w wc))
 case first =>
  have H := HC4.out
  clear HC4
  replace H := Option.bind_eq_some_iff.mp H
  obtain ⟨t1664, A60, H⟩ := H
  try dsimp only at H
  have A6 := Aside0.mk A60
  clear A60
  by_cases c7 : t1664 = true
  ·
   subst c7
   rw [if_pos rfl] at H
   replace H := Option.bind_eq_some_iff.mp H
   obtain ⟨t1665, A80, H⟩ := H
   try dsimp only at H
   have A8 := Aside0.mk A80
   clear A80
   have H' := Aside0.mk H
   clear H
   go_wp2_with (first | ((with_reducible refine gate_callee (f := 65) rfl ?_); refine goesL_ (some 11) rfl rfl Try.func65 (by kernel_rfl) rfl #[.slice A0 l0.length c0] rfl (by (try simp only [List.map_toArray, List.map_cons, List.map_nil]); first | done | rfl | (simp only [List.length_drop, List.length_take]; rfl)) ?_; (with_reducible refine (impl_IsTempo.calls k _ _ l0 true _ ?side1 ?side2 A6.out).mono ?_); (case side1 => repeat (first | exact (Kd.C_below HR0.out HB.out) | (with_reducible refine Kd.C_alloc ?_ _) | (with_reducible refine Kd.C_drewN ?_ _) | (with_reducible refine Kd.C_drew ?_))); (case side2 => exact HC0.out); rintro e w9 ⟨rfl, hb⟩; refine ⟨_, rfl, ?_⟩; have n0_ := Aside0.mk (Kd.R_below (by (with_reducible repeat (first | apply Kd.R_alloc | apply Kd.R_drewN | apply Kd.R_drew)); exact HO1663.out) hb); have n1_ := Aside0.mk (below_step (by repeat (first | (with_reducible first | exact HB.out | apply below_alloc | apply pw_below_drewN | apply below_drew1) | exact HB.out)) hb); clear HO1663; clear HB; have HO1663 := n0_; have HB := n1_; clear n0_ n1_; (try clear hb); (try clear hb2); (try clear hk); (try clear hi)) | (go_at_call 86; (with_reducible refine (impl_InRange.calls a1 1 1000 t1665 _ A8.out).mono ?_); rintro e w' ⟨rfl, ⟨nd, rfl⟩⟩))
   go_meet
   case rel => exact ⟨_, (!t1665), (by first | rfl | (simp; done) | (simp [*]; done)), H', ⟨by first | omega | exact Nat.le_refl _⟩, ⟨by (with_reducible repeat (first | apply Kd.R_alloc | apply Kd.R_drewN | apply Kd.R_drew)); exact HO1663.out⟩, ⟨by repeat (first | (with_reducible first | exact HB.out | apply below_alloc | apply pw_below_drewN | apply below_drew1) | exact HB.out)⟩⟩
  ·
   replace c7 := Bool.eq_false_iff.mpr c7
   subst c7
   rw [if_neg (show ¬ (false = true) by decide)] at H
   have H' := Aside0.mk H
   clear H
   go_wp2_with (first | ((with_reducible refine gate_callee (f := 65) rfl ?_); refine goesL_ (some 11) rfl rfl Try.func65 (by kernel_rfl) rfl #[.slice A0 l0.length c0] rfl (by (try simp only [List.map_toArray, List.map_cons, List.map_nil]); first | done | rfl | (simp only [List.length_drop, List.length_take]; rfl)) ?_; (with_reducible refine (impl_IsTempo.calls k _ _ l0 false _ ?side1 ?side2 A6.out).mono ?_); (case side1 => repeat (first | exact (Kd.C_below HR0.out HB.out) | (with_reducible refine Kd.C_alloc ?_ _) | (with_reducible refine Kd.C_drewN ?_ _) | (with_reducible refine Kd.C_drew ?_))); (case side2 => exact HC0.out); rintro e w10 ⟨rfl, hb⟩; refine ⟨_, rfl, ?_⟩; have n0_ := Aside0.mk (Kd.R_below (by (with_reducible repeat (first | apply Kd.R_alloc | apply Kd.R_drewN | apply Kd.R_drew)); exact HO1663.out) hb); have n1_ := Aside0.mk (below_step (by repeat (first | (with_reducible first | exact HB.out | apply below_alloc | apply pw_below_drewN | apply below_drew1) | exact HB.out)) hb); clear HO1663; clear HB; have HO1663 := n0_; have HB := n1_; clear n0_ n1_; (try clear hb); (try clear hb2); (try clear hk); (try clear hi)))
   go_meet
   case rel => exact ⟨_, (true), (by first | rfl | (simp; done) | (simp [*]; done)), H', ⟨by first | omega | exact Nat.le_refl _⟩, ⟨by (with_reducible repeat (first | apply Kd.R_alloc | apply Kd.R_drewN | apply Kd.R_drew)); exact HO1663.out⟩, ⟨by repeat (first | (with_reducible first | exact HB.out | apply below_alloc | apply pw_below_drewN | apply below_drew1) | exact HB.out)⟩⟩
 case rest =>
  clear HC4
  try clear c1
  try clear p2
  try clear c6
  try clear c7
  obtain ⟨kq, x17_3, rfl, HA, HJ3, HO_6, HB⟩ := hcut
  cases kq with
  | zero => exact absurd HA.out (by simp [impl_ScaleTempo.j0])
  | succ kj3 =>
   have H := HA.out
   clear HA
   simp only [impl_ScaleTempo.j0] at H
   by_cases c11 : x17_3 = true
   ·
    subst c11
    rw [if_pos rfl] at H
    simp only [Option.some.injEq, Prod.mk.injEq] at H
    obtain ⟨rfl, rfl⟩ := H
    go_wp2
    go_ret2
    exact ⟨_, by first | rfl | (simp [errW_none, errW_some] <;> rfl) | (simp [*, errW_none, errW_some] <;> rfl), by (with_reducible repeat (first | apply Kd.R_alloc | apply Kd.R_drewN | apply Kd.R_drew)); exact HO_6.out, by repeat (first | (with_reducible first | exact HB.out | apply below_alloc | apply pw_below_drewN | apply below_drew1) | exact HB.out)⟩
   ·
    replace c11 := Bool.eq_false_iff.mpr c11
    subst c11
    rw [if_neg (show ¬ (false = true) by decide)] at H
    have H' := Aside0.mk H
    clear H
    obtain ⟨Ao12, co12, eo12⟩ := Kd.R_slice HO_6.out
    subst eo12
    go_wp2
    go_loopg [21] kj3 (fun kq v21 w' => ∃ (x6_2 : List (S151)) (x21_2 : Int), v21 = .int .i64 x21_2 ∧ Aside0 (impl_ScaleTempo.l0 kq l0 a1 x6_2 (t1661.length : Int) x21_2 = some (r1, r2)) ∧ Aside0 (kq ≤ kj3) ∧ Aside0 (Kd.R k151 151 w' w.heap.size (fun _ => True) (.slice Ao12 t1661.length co12) x6_2) ∧ Aside0 (Below w.heap.size w w'))
    case atStart => exact ⟨(t1661), (0), (by first | rfl | (simp; done) | (simp [*]; done)), H', ⟨Nat.le_refl _⟩, ⟨by (with_reducible repeat (first | apply Kd.R_alloc | apply Kd.R_drewN | apply Kd.R_drew)); exact HO_6.out⟩, ⟨by repeat (first | (with_reducible first | exact HB.out | apply below_alloc | apply pw_below_drewN | apply below_drew1) | exact HB.out)⟩⟩
    case round =>
     clear H'
     try clear c1
     try clear p2
     try clear c6
     try clear c7
     try clear c11
     try clear c12
     try clear p2
     obtain ⟨x6_2, x21_2, rfl, HA, HK2, HO_6, HB⟩ := hrel
     have hl6_2 := (Kd.R_reads' HO_6.out).1
     rw [hl6_2] at HO_6
     (try simp only [hl6_2])
     cases gk with
     | zero => exact absurd HA.out (by simp [impl_ScaleTempo.l0])
     | succ k2 =>
      have H := HA.out
      clear HA
      simp only [impl_ScaleTempo.l0] at H
      by_cases c13 : x21_2 < (t1661.length : Int)
      ·
       rw [if_pos c13] at H
       have c13b0 : decide (x21_2 < (t1661.length : Int)) = true := decide_eq_true c13
       clear c13
       by_cases c14 : 0 ≤ x21_2
       ·
        rw [if_pos c14] at H
        have c14b0 : decide (0 ≤ x21_2) = true := decide_eq_true c14
        clear c14
        by_cases c15 : x21_2 < (x6_2.length : Int)
        ·
         rw [if_pos c15] at H
         have c15b0 : decide (x21_2 < (x6_2.length : Int)) = true := decide_eq_true c15
         clear c15
         obtain ⟨y1667, hy1667⟩ : ∃ y_ : List (S151), y_ = (x6_2.set (x21_2 : Int).toNat (⟨(rd_T151 x6_2 x21_2).f0, wrap64 (Int.tdiv (wrap64 (((rd_T151 x6_2 x21_2).f1) * a1)) 100)⟩ : S151)) := ⟨_, rfl⟩
         replace H : (impl_ScaleTempo.l0 k2 l0 a1 y1667 (t1661.length : Int) (wrap64 (x21_2 + 1))) = some (r1, r2) := by first | (rw [hy1667]; with_reducible exact H) | (have H2_ := (Option.bind_some _ _).symm.trans H; rw [hy1667]; with_reducible exact H2_) | (have H2_ := (Option.bind_some _ _).symm.trans H; with_reducible exact H2_) | with_reducible exact H | (rw [hy1667]; exact H) | exact H
         have Ny1667 := Aside0.mk hy1667
         clear hy1667
         have H' := Aside0.mk H
         clear H
         have p1666 : 0 ≤ (x21_2 : Int) := of_decide_eq_true (by first | (with_reducible assumption) | assumption)
         have q1666 : x21_2 < (x6_2.length : Int) := of_decide_eq_true (by first | (with_reducible assumption) | assumption)
         obtain ⟨ad1666, e1666, hx1666_0, hx1666_1⟩ := at_T151 (Kd.R_reads' HO_6.out).2.2 x21_2 p1666 q1666
         cases e1666
         replace p1666 := eq_true p1666
         replace q1666 := eq_true q1666
         have p16 : 0 ≤ (x21_2 : Int) := of_decide_eq_true (by first | (with_reducible assumption) | assumption)
         have q16 : (x21_2 : Int) < ((x6_2.length : Int) : Int) := of_decide_eq_true (by first | (with_reducible assumption) | assumption)
         obtain ⟨go16, co16, eo16, gb16, gl16, cl16, HG16⟩ := Kd.R_form HO_6.out (by omega)
         (first | cases eo16 | (injection eo16 with ea_ en_ ec_; (first | subst ea_ | (injection ea_ with ea_; subst ea_)); subst ec_; clear en_))
         have GB16 := Aside0.mk gb16
         have GG16 := Aside0.mk HG16
         clear gb16 gl16 HG16
         (first | simp only [add_plain] at hx1666_0 | skip)
         (first | simp only [add_plain] at hx1666_1 | skip)
         obtain ⟨ce16, hcl16, hM16, hcc16, hfr16⟩ := Kd.R_elem HO_6.out z151 (x21_2 : Int) p16 q16
         obtain rfl := k151_openM hM16
         have hx16_0 : wr.cell? ⟨go16, (x21_2 : Int).toNat * 2, none⟩ = some (.int .i64 ((rd_T151 x6_2 x21_2).f0)) := hcc16 0 _ rfl
         have hx16_1 : wr.cell? ⟨go16, (x21_2 : Int).toNat * 2 + 1, none⟩ = some (.int .i64 ((rd_T151 x6_2 x21_2).f1)) := hcc16 1 _ rfl
         have hf16_0 : wr.frozen? ⟨go16, (x21_2 : Int).toNat * 2, none⟩ = false := hfr16 0
         have hf16_1 : wr.frozen? ⟨go16, (x21_2 : Int).toNat * 2 + 1, none⟩ = false := hfr16 1
         clear hcl16 hcc16 hfr16 hM16
         replace p16 := eq_true p16
         replace q16 := eq_true q16
         have HX17 := Aside0.mk (show Kd.R k151 151 wr w.heap.size (fun _ => True) (.slice (some ⟨go16, 0, none⟩) x6_2.length co12) x6_2 from (by (with_reducible repeat (first | apply Kd.R_alloc | apply Kd.R_drewN | apply Kd.R_drew)); exact HO_6.out))
         obtain ⟨ce17, hcl17, hM17, hcc17, hfr17⟩ := Kd.R_elem HX17.out z151 (x21_2 : Int) (of_decide_eq_true (by first | (with_reducible assumption) | assumption)) (by have h_ : (x21_2 : Int) < ((x6_2.length : Int) : Int) := of_decide_eq_true (by first | (with_reducible assumption) | assumption); first | exact h_ | (have e_ := (Kd.R_reads' HO_6.out).1; omega) | simpa using h_)
         obtain rfl := k151_openM hM17
         have HP17 := Kd.R_seg HX17.out (x21_2 : Int) (of_decide_eq_true (by first | (with_reducible assumption) | assumption)) (by have h_ : (x21_2 : Int) < ((x6_2.length : Int) : Int) := of_decide_eq_true (by first | (with_reducible assumption) | assumption); first | exact h_ | (have e_ := (Kd.R_reads' HO_6.out).1; omega) | simpa using h_) (seg := [.int .i64 (wrap64 (Int.tdiv (wrap64 (((rd_T151 x6_2 x21_2).f1) * a1)) 100))]) (j := 1) hcl17 hcc17 (show 2 ≤ 2 from by decide) (x' := (⟨(rd_T151 x6_2 x21_2).f0, wrap64 (Int.tdiv (wrap64 (((rd_T151 x6_2 x21_2).f1) * a1)) 100)⟩ : S151)) (k151_mkM _ _ _ (⟨(rd_T151 x6_2 x21_2).f0, wrap64 (Int.tdiv (wrap64 (((rd_T151 x6_2 x21_2).f1) * a1)) 100)⟩ : S151) ) (fun _ hk => hk)
         have hx17_1 := hcc17 1 _ rfl
         (try simp only [show (k151).sz = 2 from rfl, Nat.mul_one, Nat.add_zero] at hx17_1)
         have hf17_1 := hfr17 1
         (try simp only [show (k151).sz = 2 from rfl, Nat.mul_one, Nat.add_zero] at hf17_1)
         clear hcl17 hcc17 hfr17 hM17
         go_wp2_with (first | ((with_reducible refine gate_store (t := 3) (p := 35) rfl ?_); refine store_event (t := 3) (p := 35) (v := ?vo_w18) (w1 := (wr.setCell ⟨go16, (x21_2 : Int).toNat * 2 + 1, none⟩ (.int .i64 (wrap64 (Int.tdiv (wrap64 (((rd_T151 x6_2 x21_2).f1) * a1)) 100))))) ?hg ?ho ?hn ?hr ?_; (case ho => rfl); (case hg => rfl); (case hn => rfl); (case hr => first | (go_simp; done) | (go_simp; rfl)); intro w18 hw; have hg : wr.grownBy w18 (some go16) := (by rw [hw]; exact HP17.2); have hp_ : Kd.R k151 151 w18 w.heap.size (fun _ => True) (.slice (some ⟨go16, 0, none⟩) x6_2.length co12) y1667 := (by rw [hw, Ny1667.out]; exact HP17.1); clear HP17; have n0_ := Aside0.mk (hp_); have n1_ := Aside0.mk ((by rw [hw]; exact below_set (HB.out) GB16.out : Below w.heap.size w w18)); clear HO_6; clear HB; have HO_6 := n0_; have HB := n1_; clear n0_ n1_; clear hg hw hp_))
         (try simp only [← hl6_2])
         go_roundg k2
         case measure => have := HJ3.out; have := HK2.out; omega
         case rel => exact ⟨(y1667), (wrap64 (x21_2 + 1)), (by first | rfl | (simp; done) | (simp [*]; done)), H', ⟨by have := HJ3.out; have := HK2.out; omega⟩, ⟨by (try simp only [hl6_2]); (with_reducible repeat (first | apply Kd.R_alloc | apply Kd.R_drewN | apply Kd.R_drew)); exact HO_6.out⟩, ⟨by repeat (first | (with_reducible first | exact HB.out | apply below_alloc | apply pw_below_drewN | apply below_drew1) | exact HB.out)⟩⟩
        ·
         rw [if_neg c15] at H
         exact absurd H (by simp)
       ·
        rw [if_neg c14] at H
        exact absurd H (by simp)
      ·
       rw [if_neg c13] at H
       have c13b0 : decide (x21_2 < (t1661.length : Int)) = false := decide_eq_false c13
       (try rw [hl6_2] at c13b0)
       clear c13
       replace H := Option.bind_eq_some_iff.mp H
       obtain ⟨t1668, A190, H⟩ := H
       try dsimp only at H
       have A19 := Aside0.mk A190
       clear A190
       by_cases c20 : t1668 = true
       ·
        subst c20
        rw [if_pos rfl] at H
        simp only [Option.some.injEq, Prod.mk.injEq] at H
        obtain ⟨rfl, rfl⟩ := H
        go_wp2_with (first | ((with_reducible refine gate_callee (f := 65) rfl ?_); refine goesL_ (some 38) rfl rfl Try.func65 (by kernel_rfl) rfl #[.slice Ao12 x6_2.length co12] rfl (by (try simp only [List.map_toArray, List.map_cons, List.map_nil]); first | done | rfl | (simp only [List.length_drop, List.length_take]; rfl)) ?_; (with_reducible refine (impl_IsTempo.calls k2 _ _ x6_2 true _ ?side1 ?side2 A19.out).mono ?_); (case side1 => repeat (first | exact (Kd.R_reads' HO_6.out).2.2 | (with_reducible refine Kd.C_alloc ?_ _) | (with_reducible refine Kd.C_drewN ?_ _) | (with_reducible refine Kd.C_drew ?_))); (case side2 => exact (Kd.R_reads' HO_6.out).2.1); rintro e w21 ⟨rfl, hb⟩; refine ⟨_, rfl, ?_⟩; have n0_ := Aside0.mk (Kd.R_below (by (with_reducible repeat (first | apply Kd.R_alloc | apply Kd.R_drewN | apply Kd.R_drew)); exact HO_6.out) hb); have n1_ := Aside0.mk (below_step (by repeat (first | (with_reducible first | exact HB.out | apply below_alloc | apply pw_below_drewN | apply below_drew1) | exact HB.out)) hb); clear HO_6; clear HB; have HO_6 := n0_; have HB := n1_; clear n0_ n1_; (try clear hb); (try clear hb2); (try clear hk); (try clear hi)))
        go_ret2
        exact ⟨_, by first | rfl | (simp [errW_none, errW_some] <;> rfl) | (simp [*, errW_none, errW_some] <;> rfl), by (with_reducible repeat (first | apply Kd.R_alloc | apply Kd.R_drewN | apply Kd.R_drew)); exact HO_6.out, by repeat (first | (with_reducible first | exact HB.out | apply below_alloc | apply pw_below_drewN | apply below_drew1) | exact HB.out)⟩
       ·
        replace c20 := Bool.eq_false_iff.mpr c20
        subst c20
        rw [if_neg (show ¬ (false = true) by decide)] at H
        replace H := Option.bind_eq_some_iff.mp H
        obtain ⟨t1669, A220, H⟩ := H
        try dsimp only at H
        have A22 := Aside0.mk A220
        clear A220
        simp only [Option.some.injEq, Prod.mk.injEq] at H
        obtain ⟨rfl, rfl⟩ := H
        go_wp2_with (first | ((with_reducible refine gate_callee (f := 65) rfl ?_); refine goesL_ (some 38) rfl rfl Try.func65 (by kernel_rfl) rfl #[.slice Ao12 x6_2.length co12] rfl (by (try simp only [List.map_toArray, List.map_cons, List.map_nil]); first | done | rfl | (simp only [List.length_drop, List.length_take]; rfl)) ?_; (with_reducible refine (impl_IsTempo.calls k2 _ _ x6_2 false _ ?side1 ?side2 A19.out).mono ?_); (case side1 => repeat (first | exact (Kd.R_reads' HO_6.out).2.2 | (with_reducible refine Kd.C_alloc ?_ _) | (with_reducible refine Kd.C_drewN ?_ _) | (with_reducible refine Kd.C_drew ?_))); (case side2 => exact (Kd.R_reads' HO_6.out).2.1); rintro e w23 ⟨rfl, hb⟩; refine ⟨_, rfl, ?_⟩; have n0_ := Aside0.mk (Kd.R_below (by (with_reducible repeat (first | apply Kd.R_alloc | apply Kd.R_drewN | apply Kd.R_drew)); exact HO_6.out) hb); have n1_ := Aside0.mk (below_step (by repeat (first | (with_reducible first | exact HB.out | apply below_alloc | apply pw_below_drewN | apply below_drew1) | exact HB.out)) hb); clear HO_6; clear HB; have HO_6 := n0_; have HB := n1_; clear n0_ n1_; (try clear hb); (try clear hb2); (try clear hk); (try clear hi)) | ((with_reducible refine gate_callee (f := 124) rfl ?_); refine goesL_ (some 41) rfl rfl Try.func124 (by kernel_rfl) rfl #[.slice A0 l0.length c0] rfl (by (try simp only [List.map_toArray, List.map_cons, List.map_nil]); first | done | rfl | (simp only [List.length_drop, List.length_take]; rfl)) ?_; (with_reducible refine (impl_Tempo.calls _ _ l0 t1669 _ ?side1 ?side2 A22.out).mono ?_); (case side1 => repeat (first | exact (Kd.C_below HR0.out HB.out) | (with_reducible refine Kd.C_alloc ?_ _) | (with_reducible refine Kd.C_drewN ?_ _) | (with_reducible refine Kd.C_drew ?_))); (case side2 => exact HC0.out); rintro e w24 ⟨v1670, rfl, ho0, hb⟩; refine ⟨_, rfl, ?_⟩; have n0_ := Aside0.mk (Kd.R_elder' (by (with_reducible repeat (first | apply Kd.R_alloc | apply Kd.R_drewN | apply Kd.R_drew)); exact HO_6.out) (Kd.R_base ho0) hb); have n1_ := Aside0.mk (Kd.R_lower (Kd.R_new' ho0 (Kd.R_lt (by (with_reducible repeat (first | apply Kd.R_alloc | apply Kd.R_drewN | apply Kd.R_drew)); exact HO_6.out))) (below_size (by repeat (first | (with_reducible first | exact HB.out | apply below_alloc | apply pw_below_drewN | apply below_drew1) | exact HB.out)))); have n2_ := Aside0.mk (below_step (by repeat (first | (with_reducible first | exact HB.out | apply below_alloc | apply pw_below_drewN | apply below_drew1) | exact HB.out)) hb); clear HO_6; clear HB; have HO_6 := n0_; have HO1671 := n1_; have HB := n2_; clear n0_ n1_ n2_; (try clear hb); (try clear hb2); (try clear hk); (try clear hi); (try clear ho0)))
        go_ret2
        exact ⟨_, by first | rfl | (simp [errW_none, errW_some] <;> rfl) | (simp [*, errW_none, errW_some] <;> rfl), by (with_reducible repeat (first | apply Kd.R_alloc | apply Kd.R_drewN | apply Kd.R_drew)); exact Kd.R_mono HO1671.out (fun _ hk => trivial), by repeat (first | (with_reducible first | exact HB.out | apply below_alloc | apply pw_below_drewN | apply below_drew1) | exact HB.out)⟩
end Go.Proofs.Ytbhlmeghbfmgiaa.F
