-- Written for this claim by the kit's print.py out of the translation, called by wip/tools/fprint.py. Lean checks it.
import Derived.Test.YtiophiipmgpaeaaF0
import Derived.Test.YtiophiipmgpaeaaF2
namespace Go.Proofs.Ytiophiipmgpaeaa.F
open Go.RowKit Go.Proofs.YtiophiipmgpaeaaW.PrintWords Go.Proofs.YtiophiipmgpaeaaW.PrintLast Go.Proofs.YtiophiipmgpaeaaW.PrintMore
attribute [local go_sem] max2_int min2_int max_two min_two max_three min_three max_four min_four   -- for this text's walks alone
set_option linter.unusedVariables false
set_option linter.unusedSimpArgs false

/-! ### spec_AreSlips: function 16 -/
mutual
def spec_AreSlips.l0 : Nat → List (S103) → Int → Int → Option (Bool)
  | 0, _, _, _ => none
  | k + 1, x0, x1, x5 => if x5 < (x0.length : Int) then (if 0 ≤ x5 then (if ((rd_T103 x0 x5).f0) = 3 then (spec_AreSlips.j1 k x0 x1 x5 x1 ((rd_T103 x0 x5).f0) ((rd_T103 x0 x5).f1) ((rd_T103 x0 x5).f2)) else (spec_AreSlips.j1 k x0 x1 x5 (wrap64 (x1 - 1)) ((rd_T103 x0 x5).f0) ((rd_T103 x0 x5).f1) ((rd_T103 x0 x5).f2))) else (none)) else (some (decide ((x0.length : Int) ≤ 8)))
def spec_AreSlips.j1 : Nat → List (S103) → Int → Int → Int → Int → Int → Int → Option (Bool)
  | 0, _, _, _, _, _, _, _ => none
  | k + 1, x0, x1, x5, x7, x104000, x104001, x104002 => (spec_l1In.f x104000 1 3).bind fun t104 => (if t104 = true then ((spec_l1In.f x104001 0 x7).bind fun t105 => (if t105 = true then ((spec_l1In.f x104002 0 127).bind fun t106 => (if t106 = true then (if x104000 = 2 then (if x104002 = 0 then (if x5 > 0 then (if 0 ≤ (wrap64 (x5 - 1)) then (if (wrap64 (x5 - 1)) < (x0.length : Int) then (if ((rd_T103 x0 (wrap64 (x5 - 1))).f1) ≤ x104001 then (some false) else (spec_AreSlips.l0 k x0 x1 (wrap64 (x5 + 1)))) else (none)) else (none)) else (spec_AreSlips.l0 k x0 x1 (wrap64 (x5 + 1)))) else (some false)) else (if x5 > 0 then (if 0 ≤ (wrap64 (x5 - 1)) then (if (wrap64 (x5 - 1)) < (x0.length : Int) then (if ((rd_T103 x0 (wrap64 (x5 - 1))).f1) ≤ x104001 then (some false) else (spec_AreSlips.l0 k x0 x1 (wrap64 (x5 + 1)))) else (none)) else (none)) else (spec_AreSlips.l0 k x0 x1 (wrap64 (x5 + 1))))) else (some false))) else (some false))) else (some false))
end
def spec_AreSlips.f (k : Nat) (l0 : List (S103)) (a1 : Int) : Option (Bool) := (spec_l1In.f a1 0 1000).bind fun t101 => (if t101 = true then (spec_AreSlips.l0 k l0 a1 0) else (some false))
theorem spec_AreSlips.mono_l : ∀ k, (∀ y0 y1 y2, LeO (spec_AreSlips.l0 k y0 y1 y2) (spec_AreSlips.l0 (k + 1) y0 y1 y2)) ∧ (∀ y0 y1 y2 y3 y4 y5 y6, LeO (spec_AreSlips.j1 k y0 y1 y2 y3 y4 y5 y6) (spec_AreSlips.j1 (k + 1) y0 y1 y2 y3 y4 y5 y6))
  | 0 => ⟨fun _ _ _ r h => by simp [spec_AreSlips.l0] at h, fun _ _ _ _ _ _ _ r h => by simp [spec_AreSlips.j1] at h⟩
  | k + 1 => by
    obtain ⟨ih0, ih1⟩ := spec_AreSlips.mono_l k
    refine ⟨?_, ?_⟩
    · intro y0 y1 y2
      unfold spec_AreSlips.l0
      repeat' first
      | (with_reducible exact ih0 _ _ _)
      | (with_reducible exact ih1 _ _ _ _ _ _ _)
      | (with_reducible exact LeO.refl _)
      | (with_reducible exact LeO.none _)
      | (with_reducible refine LeO.ite ?_ ?_)
      | (with_reducible refine LeO.bind ?_ (fun _ => ?_))
      | exact ih0 _ _ _
      | exact ih1 _ _ _ _ _ _ _
      | exact LeO.none _
      | refine LeO.ite ?_ ?_
      | refine LeO.bind ?_ (fun _ => ?_)
    · intro y0 y1 y2 y3 y4 y5 y6
      unfold spec_AreSlips.j1
      repeat' first
      | (with_reducible exact ih0 _ _ _)
      | (with_reducible exact ih1 _ _ _ _ _ _ _)
      | (with_reducible exact LeO.refl _)
      | (with_reducible exact LeO.none _)
      | (with_reducible refine LeO.ite ?_ ?_)
      | (with_reducible refine LeO.bind ?_ (fun _ => ?_))
      | exact ih0 _ _ _
      | exact ih1 _ _ _ _ _ _ _
      | exact LeO.none _
      | refine LeO.ite ?_ ?_
      | refine LeO.bind ?_ (fun _ => ?_)
theorem spec_AreSlips.mono : ∀ a0 a1 k, LeO (spec_AreSlips.f k a0 a1) (spec_AreSlips.f (k + 1) a0 a1) := by
  intro a0 a1 k
  obtain ⟨ih0, ih1⟩ := spec_AreSlips.mono_l k
  unfold spec_AreSlips.f
  repeat' first
      | (with_reducible exact ih0 _ _ _)
      | (with_reducible exact ih1 _ _ _ _ _ _ _)
      | (with_reducible exact LeO.refl _)
      | (with_reducible exact LeO.none _)
      | (with_reducible refine LeO.ite ?_ ?_)
      | (with_reducible refine LeO.bind ?_ (fun _ => ?_))
      | exact ih0 _ _ _
      | exact ih1 _ _ _ _ _ _ _
      | exact LeO.none _
      | refine LeO.ite ?_ ?_
      | refine LeO.bind ?_ (fun _ => ?_)
def spec_AreSlips.T10 : Bool × List (List Nat × List Nat) := (true, [([], []), ([0], [0]), ([1], [1]), ([2], [2]), ([3, 2], [3]), ([4], [4]), ([5, 4], [4, 5]), ([4], [4]), ([6, 7, 4, 4], [4, 6, 7]), ([8, 4], [4, 8]), ([4, 9], [4, 9]), ([10, 8], [10]), ([11], [11]), ([12, 11], [11, 12]), ([13, 11, 11], [11, 13]), ([14, 11], [11, 14]), ([11, 15], [11, 15]), ([16, 14], [16]), ([17], [17]), ([18, 17], [17, 18]), ([19, 17], [17, 19]), ([20, 17, 17], [17, 20]), ([21], [21]), ([22, 21], [21, 22]), ([23, 21], [21, 23]), ([21, 24, 17], [17, 21, 24]), ([17, 25], [17, 25]), ([26, 21], [26]), ([27], [27]), ([28, 27], [27, 28]), ([29, 27, 27], [27, 29]), ([30], [30]), ([30], [30]), ([32, 30], [30, 32]), ([31, 33, 30], [30, 31, 33]), ([34, 30], [30, 34]), ([35, 30], [30, 35]), ([30], [30]), ([37, 30], [30, 37]), ([36, 38, 30], [30, 36, 38]), ([30, 39, 27], [27, 30, 39]), ([27, 40], [27, 40])])
def spec_AreSlips.B10 : List Nat := [0, 1, 3, 7, 15, 31, 63, 31, 255, 511, 1023, 2047, 4095, 8191, 16383, 32767, 65535, 131071, 262143, 524287, 1048575, 2097151, 4194303, 8388607, 16777215, 33554431, 67108863, 134217727, 268435455, 536870911, 1073741823, 2147483647, 2147483647, 6442450943, 17179869183, 34359738367, 68719476735, 2147483647, 139586437119, 549755813887, 1099511627775, 2199023255551]
theorem spec_AreSlips.tab10 : rtab .any (opsOf Try.f16 10) = spec_AreSlips.T10 := by kernel_rfl
theorem spec_AreSlips.bits10 : waitsOk spec_AreSlips.T10.2 spec_AreSlips.B10 = true := by kernel_rfl
set_option maxHeartbeats 8000000 in
set_option maxRecDepth 100000 in
theorem spec_AreSlips.calls (k : Nat) (A0 : Option Addr) (c0 : Nat) (l0 : List (S103)) (a1 : Int) (r : Bool) (w : World) (hr0 : Kd.C k103 w A0 l0.length l0) (hc0 : l0.length ≤ c0) (h : spec_AreSlips.f k l0 a1 = some r) :
    Calls Try.prog 16 #[.slice A0 l0.length c0, .int .i64 a1] w fun e w' => e = .returned (.bool r) ∧ Below w.heap.size w w' := by
  have hu103 := Try.underlying103
  have HR0 := Aside0.mk hr0
  have HC0 := Aside0.mk hc0
  clear hr0 hc0
  have HB := Aside0.mk (Below.refl w.heap.size w)
  have H : ((spec_l1In.f a1 0 1000).bind fun t101 => (if t101 = true then (spec_AreSlips.l0 k l0 a1 0) else (some false))) = some r := h
  clear h
  replace H := Option.bind_eq_some_iff.mp H
  obtain ⟨t101, A30, H⟩ := H
  replace H : (if t101 = true then (spec_AreSlips.l0 k l0 a1 0) else (some false)) = some r := H
  have A3 := Aside0.mk A30
  clear A30
  by_cases c4 : t101 = true
  · subst c4
    have H1 : (spec_AreSlips.l0 k l0 a1 0) = some r := by rw [if_pos rfl] at H; exact H
    clear H
    have H := H1
    clear H1
    have H' := Aside0.mk H
    clear H
    go_enter Try.func16, Try.ntmps16
    go_wp2_with (first | ((with_reducible refine gate_callee (f := 80) rfl ?_); refine goesL_ (some 9) rfl rfl Try.func80 (by kernel_rfl) rfl #[.int .i64 a1, .int .i64 0, .int .i64 1000] rfl (by (try simp only [List.map_toArray, List.map_cons, List.map_nil]); first | done | rfl | (simp only [List.length_drop, List.length_take]; rfl)) ?_; (with_reducible refine (spec_l1In.calls a1 0 1000 true _ A3.out).mono ?_); rintro e w' ⟨rfl, ⟨nd, rfl⟩⟩; refine ⟨_, rfl, ?_⟩))
    go_loopg [5] k (fun kq v5 w' => ∃ (x5_1 : Int), v5 = .int .i64 x5_1 ∧ Aside0 (spec_AreSlips.l0 kq l0 a1 x5_1 = some r) ∧ Aside0 (kq ≤ k) ∧ Aside0 (Below w.heap.size w w'))
    case atStart => exact ⟨(0), (by first | rfl | (simp; done) | (simp [*]; done)), H', ⟨Nat.le_refl _⟩, ⟨by repeat (first | (with_reducible first | exact HB.out | apply below_alloc | apply pw_below_drewN | apply below_drew1) | exact HB.out)⟩⟩
    case round =>
      clear H'
      try clear c1
      try clear p2
      try clear c4
      obtain ⟨x5_1, rfl, HA, HK1, HB⟩ := hrel
      cases gk with
      | zero => exact absurd HA.out (by simp [spec_AreSlips.l0])
      | succ k1 =>
        have H := HA.out
        clear HA
        simp only [spec_AreSlips.l0] at H
        by_cases c5 : x5_1 < (l0.length : Int)
        · rw [if_pos c5] at H
          have c5b0 : decide (x5_1 < (l0.length : Int)) = true := decide_eq_true c5
          clear c5
          by_cases c6 : 0 ≤ x5_1
          · rw [if_pos c6] at H
            have c6b0 : decide (0 ≤ x5_1) = true := decide_eq_true c6
            clear c6
            have HC7 := Aside0.mk H
            clear H
            have p102 : 0 ≤ (x5_1 : Int) := of_decide_eq_true (by first | (with_reducible assumption) | assumption)
            have q102 : x5_1 < (l0.length : Int) := of_decide_eq_true (by first | (with_reducible assumption) | assumption)
            obtain ⟨ad102, e102, hx102_0, hx102_1, hx102_2⟩ := at_T103 HR0.out x5_1 p102 q102
            cases e102
            replace hx102_0 := (HB.out.cell (World.block_lt_of_cell? w _ hx102_0)).trans hx102_0
            replace hx102_1 := (HB.out.cell (World.block_lt_of_cell? w _ hx102_1)).trans hx102_1
            replace hx102_2 := (HB.out.cell (World.block_lt_of_cell? w _ hx102_2)).trans hx102_2
            replace p102 := eq_true p102
            replace q102 := eq_true q102
            go_upto_if 25 with (first | ((with_reducible refine gate_dst (N := 6) rfl ?_); refine box_event ?hg (N := 6) ?hd (cs := #[.int .i64 0, .int .i64 0, .int .i64 0]) (t := 103) ?hr ?_; (case hd => rfl); (case hg => rfl); (case hr => first | (go_simp; done) | (go_simp; rfl)); intro gb103 hg w8 hbox hb; have n0_ := Aside0.mk (below_step (by repeat (first | (with_reducible first | exact HB.out | apply below_alloc | apply pw_below_drewN | apply below_drew1) | exact HB.out)) hb); have n1_ := Aside0.mk (hbox); have n2_ := Aside0.mk ((by rw [hg]; exact (below_size (by repeat (first | (with_reducible first | exact HB.out | apply below_alloc | apply pw_below_drewN | apply below_drew1) | exact HB.out))) : w.heap.size ≤ gb103)); have n3_ := Aside0.mk ((by rw [hg]; exact (below_size (by repeat (first | (with_reducible first | exact HB.out | apply below_alloc | apply pw_below_drewN | apply below_drew1) | exact HB.out))) : w.heap.size ≤ gb103)); clear HB; have HB := n0_; have BK103 := n1_; have GW103 := n2_; have GE103 := n3_; clear n0_ n1_ n2_ n3_; clear hb hbox hg; have hcz9_0 : w8.cell? ⟨gb103, 0, none⟩ = some (.int .i64 0) := (blk_cell BK103.out 0).trans rfl; have hcz9_1 : w8.cell? ⟨gb103, 1, none⟩ = some (.int .i64 0) := (blk_cell BK103.out 1).trans rfl; have hcz9_2 : w8.cell? ⟨gb103, 2, none⟩ = some (.int .i64 0) := (blk_cell BK103.out 2).trans rfl; have hfz9_0 := blk_frozen BK103.out 0; have hfz9_1 := blk_frozen BK103.out 1; have hfz9_2 := blk_frozen BK103.out 2))
            (try simp only [Act.put, List.setIfInBounds_toArray, List.set_cons_zero, List.set_cons_succ])
            go_cut [7] (fun v7 wc => ∃ (kq : Nat) (x7_6 : Int), v7 = .int .i64 x7_6 ∧ Aside0 (spec_AreSlips.j1 kq l0 a1 x5_1 x7_6 ((rd_T103 l0 x5_1).f0) ((rd_T103 l0 x5_1).f1) ((rd_T103 l0 x5_1).f2) = some r) ∧ Aside0 (kq ≤ k1) ∧ Aside0 (wc.heap[gb103]? = some (.cells #[.int .i64 ((rd_T103 l0 x5_1).f0), .int .i64 ((rd_T103 l0 x5_1).f1), .int .i64 ((rd_T103 l0 x5_1).f2)] 103 (0, 0))) ∧ Aside0 (Below w.heap.size w wc))
            case first =>
              have H := HC7.out
              clear HC7
              by_cases c10 : ((rd_T103 l0 x5_1).f0) = 3
              · rw [if_pos c10] at H
                have c10b0 : (((rd_T103 l0 x5_1).f0) == 3) = true := beq_iff_eq.mpr c10
                have c10b1 : (((rd_T103 l0 x5_1).f0) != 3) = false := bne_eq_false_iff_eq.mpr c10
                clear c10
                (first | rw [c10b0] | (simp only [i64_w, i32_w]; rw [c10b0]) | skip)
                have H' := Aside0.mk H
                clear H
                go_wp2
                go_meet
                case rel => exact ⟨_, (a1), (by first | rfl | (simp; done) | (simp [*]; done)), H', ⟨by have := HK1.out; first | omega | exact Nat.le_refl _⟩, ⟨by (with_reducible repeat (first | refine blk_drewN ?_ _ | refine blk_drew ?_ | refine blk_alloc ?_ _)); refine blk_put (cs := #[.int .i64 ((rd_T103 l0 x5_1).f0), .int .i64 ((rd_T103 l0 x5_1).f1), .int .i64 0]) ?_ 2 _ rfl; (with_reducible repeat (first | refine blk_drewN ?_ _ | refine blk_drew ?_ | refine blk_alloc ?_ _)); refine blk_put (cs := #[.int .i64 ((rd_T103 l0 x5_1).f0), .int .i64 0, .int .i64 0]) ?_ 1 _ rfl; (with_reducible repeat (first | refine blk_drewN ?_ _ | refine blk_drew ?_ | refine blk_alloc ?_ _)); refine blk_put (cs := #[.int .i64 0, .int .i64 0, .int .i64 0]) ?_ 0 _ rfl; (with_reducible repeat (first | refine blk_drewN ?_ _ | refine blk_drew ?_ | refine blk_alloc ?_ _)); exact BK103.out⟩, ⟨by repeat (first | (with_reducible first | exact HB.out | apply below_alloc | apply pw_below_drewN | apply below_drew1 | refine below_set ?_ GE103.out) | exact HB.out)⟩⟩
              · rw [if_neg c10] at H
                have c10b0 : (((rd_T103 l0 x5_1).f0) == 3) = false := beq_eq_false_iff_ne.mpr c10
                have c10b1 : (((rd_T103 l0 x5_1).f0) != 3) = true := bne_iff_ne.mpr c10
                (first | rw [c10b0] | (simp only [i64_w, i32_w]; rw [c10b0]) | skip)
                have H' := Aside0.mk H
                clear H
                go_wp2
                go_meet
                case rel => exact ⟨_, (wrap64 (a1 - 1)), (by first | rfl | (simp; done) | (simp [*]; done)), H', ⟨by have := HK1.out; first | omega | exact Nat.le_refl _⟩, ⟨by (with_reducible repeat (first | refine blk_drewN ?_ _ | refine blk_drew ?_ | refine blk_alloc ?_ _)); refine blk_put (cs := #[.int .i64 ((rd_T103 l0 x5_1).f0), .int .i64 ((rd_T103 l0 x5_1).f1), .int .i64 0]) ?_ 2 _ rfl; (with_reducible repeat (first | refine blk_drewN ?_ _ | refine blk_drew ?_ | refine blk_alloc ?_ _)); refine blk_put (cs := #[.int .i64 ((rd_T103 l0 x5_1).f0), .int .i64 0, .int .i64 0]) ?_ 1 _ rfl; (with_reducible repeat (first | refine blk_drewN ?_ _ | refine blk_drew ?_ | refine blk_alloc ?_ _)); refine blk_put (cs := #[.int .i64 0, .int .i64 0, .int .i64 0]) ?_ 0 _ rfl; (with_reducible repeat (first | refine blk_drewN ?_ _ | refine blk_drew ?_ | refine blk_alloc ?_ _)); exact BK103.out⟩, ⟨by repeat (first | (with_reducible first | exact HB.out | apply below_alloc | apply pw_below_drewN | apply below_drew1 | refine below_set ?_ GE103.out) | exact HB.out)⟩⟩
            case rest =>
              clear HC7
              try clear c1
              try clear p1
              try clear q1
              try clear hx1
              try clear p2
              try clear c4
              try clear c5
              try clear c5b0
              try clear c6
              try clear c6b0
              try clear p6
              try clear c8
              try clear c10
              try clear c10b0
              try clear c10b1
              try clear p10
              try clear q10
              try clear hx10
              try clear hcz9_0
              try clear hcz9_1
              try clear hcz9_2
              try clear hfz9_0
              try clear hfz9_1
              try clear hfz9_2
              try clear hx102_0
              try clear hx102_1
              try clear hx102_2
              try clear p102
              try clear p2
              try clear q102
              obtain ⟨kq, x7_6, rfl, HA, HJ6, BK103, HB⟩ := hcut
              cases kq with
              | zero => exact absurd HA.out (by simp [spec_AreSlips.j1])
              | succ kj6 =>
                have H := HA.out
                clear HA
                simp only [spec_AreSlips.j1] at H
                replace H := Option.bind_eq_some_iff.mp H
                obtain ⟨t104, A110, H⟩ := H
                replace H : (if t104 = true then ((spec_l1In.f ((rd_T103 l0 x5_1).f1) 0 x7_6).bind fun t105 => (if t105 = true then ((spec_l1In.f ((rd_T103 l0 x5_1).f2) 0 127).bind fun t106 => (if t106 = true then (if ((rd_T103 l0 x5_1).f0) = 2 then (if ((rd_T103 l0 x5_1).f2) = 0 then (if x5_1 > 0 then (if 0 ≤ (wrap64 (x5_1 - 1)) then (if (wrap64 (x5_1 - 1)) < (l0.length : Int) then (if ((rd_T103 l0 (wrap64 (x5_1 - 1))).f1) ≤ ((rd_T103 l0 x5_1).f1) then (some false) else (spec_AreSlips.l0 kj6 l0 a1 (wrap64 (x5_1 + 1)))) else (none)) else (none)) else (spec_AreSlips.l0 kj6 l0 a1 (wrap64 (x5_1 + 1)))) else (some false)) else (if x5_1 > 0 then (if 0 ≤ (wrap64 (x5_1 - 1)) then (if (wrap64 (x5_1 - 1)) < (l0.length : Int) then (if ((rd_T103 l0 (wrap64 (x5_1 - 1))).f1) ≤ ((rd_T103 l0 x5_1).f1) then (some false) else (spec_AreSlips.l0 kj6 l0 a1 (wrap64 (x5_1 + 1)))) else (none)) else (none)) else (spec_AreSlips.l0 kj6 l0 a1 (wrap64 (x5_1 + 1))))) else (some false))) else (some false))) else (some false)) = some r := H
                have A11 := Aside0.mk A110
                clear A110
                by_cases c12 : t104 = true
                · subst c12
                  have H1 : ((spec_l1In.f ((rd_T103 l0 x5_1).f1) 0 x7_6).bind fun t105 => (if t105 = true then ((spec_l1In.f ((rd_T103 l0 x5_1).f2) 0 127).bind fun t106 => (if t106 = true then (if ((rd_T103 l0 x5_1).f0) = 2 then (if ((rd_T103 l0 x5_1).f2) = 0 then (if x5_1 > 0 then (if 0 ≤ (wrap64 (x5_1 - 1)) then (if (wrap64 (x5_1 - 1)) < (l0.length : Int) then (if ((rd_T103 l0 (wrap64 (x5_1 - 1))).f1) ≤ ((rd_T103 l0 x5_1).f1) then (some false) else (spec_AreSlips.l0 kj6 l0 a1 (wrap64 (x5_1 + 1)))) else (none)) else (none)) else (spec_AreSlips.l0 kj6 l0 a1 (wrap64 (x5_1 + 1)))) else (some false)) else (if x5_1 > 0 then (if 0 ≤ (wrap64 (x5_1 - 1)) then (if (wrap64 (x5_1 - 1)) < (l0.length : Int) then (if ((rd_T103 l0 (wrap64 (x5_1 - 1))).f1) ≤ ((rd_T103 l0 x5_1).f1) then (some false) else (spec_AreSlips.l0 kj6 l0 a1 (wrap64 (x5_1 + 1)))) else (none)) else (none)) else (spec_AreSlips.l0 kj6 l0 a1 (wrap64 (x5_1 + 1))))) else (some false))) else (some false))) = some r := by rw [if_pos rfl] at H; exact H
                  clear H
                  have H := H1
                  clear H1
                  replace H := Option.bind_eq_some_iff.mp H
                  obtain ⟨t105, A130, H⟩ := H
                  replace H : (if t105 = true then ((spec_l1In.f ((rd_T103 l0 x5_1).f2) 0 127).bind fun t106 => (if t106 = true then (if ((rd_T103 l0 x5_1).f0) = 2 then (if ((rd_T103 l0 x5_1).f2) = 0 then (if x5_1 > 0 then (if 0 ≤ (wrap64 (x5_1 - 1)) then (if (wrap64 (x5_1 - 1)) < (l0.length : Int) then (if ((rd_T103 l0 (wrap64 (x5_1 - 1))).f1) ≤ ((rd_T103 l0 x5_1).f1) then (some false) else (spec_AreSlips.l0 kj6 l0 a1 (wrap64 (x5_1 + 1)))) else (none)) else (none)) else (spec_AreSlips.l0 kj6 l0 a1 (wrap64 (x5_1 + 1)))) else (some false)) else (if x5_1 > 0 then (if 0 ≤ (wrap64 (x5_1 - 1)) then (if (wrap64 (x5_1 - 1)) < (l0.length : Int) then (if ((rd_T103 l0 (wrap64 (x5_1 - 1))).f1) ≤ ((rd_T103 l0 x5_1).f1) then (some false) else (spec_AreSlips.l0 kj6 l0 a1 (wrap64 (x5_1 + 1)))) else (none)) else (none)) else (spec_AreSlips.l0 kj6 l0 a1 (wrap64 (x5_1 + 1))))) else (some false))) else (some false)) = some r := H
                  have A13 := Aside0.mk A130
                  clear A130
                  by_cases c14 : t105 = true
                  · subst c14
                    have H1 : ((spec_l1In.f ((rd_T103 l0 x5_1).f2) 0 127).bind fun t106 => (if t106 = true then (if ((rd_T103 l0 x5_1).f0) = 2 then (if ((rd_T103 l0 x5_1).f2) = 0 then (if x5_1 > 0 then (if 0 ≤ (wrap64 (x5_1 - 1)) then (if (wrap64 (x5_1 - 1)) < (l0.length : Int) then (if ((rd_T103 l0 (wrap64 (x5_1 - 1))).f1) ≤ ((rd_T103 l0 x5_1).f1) then (some false) else (spec_AreSlips.l0 kj6 l0 a1 (wrap64 (x5_1 + 1)))) else (none)) else (none)) else (spec_AreSlips.l0 kj6 l0 a1 (wrap64 (x5_1 + 1)))) else (some false)) else (if x5_1 > 0 then (if 0 ≤ (wrap64 (x5_1 - 1)) then (if (wrap64 (x5_1 - 1)) < (l0.length : Int) then (if ((rd_T103 l0 (wrap64 (x5_1 - 1))).f1) ≤ ((rd_T103 l0 x5_1).f1) then (some false) else (spec_AreSlips.l0 kj6 l0 a1 (wrap64 (x5_1 + 1)))) else (none)) else (none)) else (spec_AreSlips.l0 kj6 l0 a1 (wrap64 (x5_1 + 1))))) else (some false))) = some r := by rw [if_pos rfl] at H; exact H
                    clear H
                    have H := H1
                    clear H1
                    replace H := Option.bind_eq_some_iff.mp H
                    obtain ⟨t106, A150, H⟩ := H
                    replace H : (if t106 = true then (if ((rd_T103 l0 x5_1).f0) = 2 then (if ((rd_T103 l0 x5_1).f2) = 0 then (if x5_1 > 0 then (if 0 ≤ (wrap64 (x5_1 - 1)) then (if (wrap64 (x5_1 - 1)) < (l0.length : Int) then (if ((rd_T103 l0 (wrap64 (x5_1 - 1))).f1) ≤ ((rd_T103 l0 x5_1).f1) then (some false) else (spec_AreSlips.l0 kj6 l0 a1 (wrap64 (x5_1 + 1)))) else (none)) else (none)) else (spec_AreSlips.l0 kj6 l0 a1 (wrap64 (x5_1 + 1)))) else (some false)) else (if x5_1 > 0 then (if 0 ≤ (wrap64 (x5_1 - 1)) then (if (wrap64 (x5_1 - 1)) < (l0.length : Int) then (if ((rd_T103 l0 (wrap64 (x5_1 - 1))).f1) ≤ ((rd_T103 l0 x5_1).f1) then (some false) else (spec_AreSlips.l0 kj6 l0 a1 (wrap64 (x5_1 + 1)))) else (none)) else (none)) else (spec_AreSlips.l0 kj6 l0 a1 (wrap64 (x5_1 + 1))))) else (some false)) = some r := H
                    have A15 := Aside0.mk A150
                    clear A150
                    by_cases c16 : t106 = true
                    · subst c16
                      have H1 : (if ((rd_T103 l0 x5_1).f0) = 2 then (if ((rd_T103 l0 x5_1).f2) = 0 then (if x5_1 > 0 then (if 0 ≤ (wrap64 (x5_1 - 1)) then (if (wrap64 (x5_1 - 1)) < (l0.length : Int) then (if ((rd_T103 l0 (wrap64 (x5_1 - 1))).f1) ≤ ((rd_T103 l0 x5_1).f1) then (some false) else (spec_AreSlips.l0 kj6 l0 a1 (wrap64 (x5_1 + 1)))) else (none)) else (none)) else (spec_AreSlips.l0 kj6 l0 a1 (wrap64 (x5_1 + 1)))) else (some false)) else (if x5_1 > 0 then (if 0 ≤ (wrap64 (x5_1 - 1)) then (if (wrap64 (x5_1 - 1)) < (l0.length : Int) then (if ((rd_T103 l0 (wrap64 (x5_1 - 1))).f1) ≤ ((rd_T103 l0 x5_1).f1) then (some false) else (spec_AreSlips.l0 kj6 l0 a1 (wrap64 (x5_1 + 1)))) else (none)) else (none)) else (spec_AreSlips.l0 kj6 l0 a1 (wrap64 (x5_1 + 1))))) = some r := by rw [if_pos rfl] at H; exact H
                      clear H
                      have H := H1
                      clear H1
                      by_cases c17 : ((rd_T103 l0 x5_1).f0) = 2
                      · rw [if_pos c17] at H
                        have c17b0 : (((rd_T103 l0 x5_1).f0) == 2) = true := beq_iff_eq.mpr c17
                        have c17b1 : (((rd_T103 l0 x5_1).f0) != 2) = false := bne_eq_false_iff_eq.mpr c17
                        clear c17
                        by_cases c18 : ((rd_T103 l0 x5_1).f2) = 0
                        · rw [if_pos c18] at H
                          have c18b0 : (((rd_T103 l0 x5_1).f2) == 0) = true := beq_iff_eq.mpr c18
                          have c18b1 : (((rd_T103 l0 x5_1).f2) != 0) = false := bne_eq_false_iff_eq.mpr c18
                          clear c18
                          by_cases c19 : x5_1 > 0
                          · rw [if_pos c19] at H
                            have c19b0 : decide (0 < x5_1) = true := decide_eq_true c19
                            clear c19
                            obtain ⟨ji20, hji20⟩ : ∃ j_ : Int, (wrap64 (x5_1 - 1)) = j_ := ⟨_, rfl⟩
                            replace H : (if 0 ≤ (ji20) then (if (ji20) < (l0.length : Int) then (if ((rd_T103 l0 (ji20)).f1) ≤ ((rd_T103 l0 x5_1).f1) then (some false) else (spec_AreSlips.l0 kj6 l0 a1 (wrap64 (x5_1 + 1)))) else (none)) else (none)) = some r := by first | (rw [hji20] at H; exact H) | (simp only [hji20] at H ⊢; exact H)
                            (try rw [hji20] at A11)
                            (try rw [hji20] at A13)
                            (try rw [hji20] at A15)
                            have hji20w : (IntKind.i64.wrap (x5_1 - 1)) = ji20 := (i64_w _).trans hji20
                            by_cases c21 : 0 ≤ (ji20)
                            · rw [if_pos c21] at H
                              have c21b0 : decide (0 ≤ (ji20)) = true := decide_eq_true c21
                              clear c21
                              by_cases c22 : (ji20) < (l0.length : Int)
                              · rw [if_pos c22] at H
                                have c22b0 : decide ((ji20) < (l0.length : Int)) = true := decide_eq_true c22
                                clear c22
                                by_cases c23 : ((rd_T103 l0 (ji20)).f1) ≤ ((rd_T103 l0 x5_1).f1)
                                · rw [if_pos c23] at H
                                  have c23b0 : decide (((rd_T103 l0 (ji20)).f1) ≤ ((rd_T103 l0 x5_1).f1)) = true := decide_eq_true c23
                                  clear c23
                                  obtain rfl := Option.some.inj H
                                  try go_wp2
                                  have n0_ := Aside0.mk (blk_drew BK103.out)
                                  have n1_ := Aside0.mk (below_drew1 HB.out)
                                  clear BK103
                                  clear HB
                                  have BK103 := n0_
                                  have HB := n1_
                                  clear n0_ n1_
                                  have p107 : 0 ≤ ((ji20) : Int) := of_decide_eq_true (by first | (with_reducible assumption) | assumption)
                                  have q107 : (ji20) < (l0.length : Int) := of_decide_eq_true (by first | (with_reducible assumption) | assumption)
                                  obtain ⟨ad107, e107, hx107_0, hx107_1, hx107_2⟩ := at_T103 HR0.out (ji20) p107 q107
                                  have hw107_2 := hx107_2
                                  have hw107_1 := hx107_1
                                  have hw107_0 := hx107_0
                                  obtain rfl : ad102 = ad107 := (by injection e107)
                                  replace hx107_0 := (HB.out.cell (World.block_lt_of_cell? w _ hx107_0)).trans hx107_0
                                  replace hx107_1 := (HB.out.cell (World.block_lt_of_cell? w _ hx107_1)).trans hx107_1
                                  replace hx107_2 := (HB.out.cell (World.block_lt_of_cell? w _ hx107_2)).trans hx107_2
                                  replace p107 := eq_true p107
                                  replace q107 := eq_true q107
                                  have hq0_ : wc.cell? ⟨gb103, 0, none⟩ = some (.int .i64 ((rd_T103 l0 x5_1).f0)) := (blk_cell BK103.out 0).trans rfl
                                  have hq1_ : wc.cell? ⟨gb103, 1, none⟩ = some (.int .i64 ((rd_T103 l0 x5_1).f1)) := (blk_cell BK103.out 1).trans rfl
                                  have hq2_ : wc.cell? ⟨gb103, 2, none⟩ = some (.int .i64 ((rd_T103 l0 x5_1).f2)) := (blk_cell BK103.out 2).trans rfl
                                  have hq3_ : wc.cell? (ad102.add (((ji20)).toNat * 3)) = some (.int .i64 ((rd_T103 l0 (ji20)).f0)) := ((HB.out.cell (World.block_lt_of_cell? w _ hw107_0)).trans hw107_0)
                                  have hq4_ : wc.cell? ⟨(ad102.add (((ji20)).toNat * 3)).block, (ad102.add (((ji20)).toNat * 3)).off + 1, none⟩ = some (.int .i64 ((rd_T103 l0 (ji20)).f1)) := ((HB.out.cell (World.block_lt_of_cell? w _ hw107_1)).trans hw107_1)
                                  have hq5_ : wc.cell? ⟨(ad102.add (((ji20)).toNat * 3)).block, (ad102.add (((ji20)).toNat * 3)).off + 2, none⟩ = some (.int .i64 ((rd_T103 l0 (ji20)).f2)) := ((HB.out.cell (World.block_lt_of_cell? w _ hw107_2)).trans hw107_2)
                                  go_quiet ((first | (go_at_call 80; apply Calls.quiet_of; ((with_reducible refine (spec_l1In.calls ((rd_T103 l0 x5_1).f0) 1 3 true _ A11.out).mono ?_); exact fun _ _ h_ => ⟨h_.1, h_.2.out⟩)) | (go_at_call 80; apply Calls.quiet_of; ((with_reducible refine (spec_l1In.calls ((rd_T103 l0 x5_1).f1) 0 x7_6 true _ A13.out).mono ?_); exact fun _ _ h_ => ⟨h_.1, h_.2.out⟩)) | (go_at_call 80; apply Calls.quiet_of; ((with_reducible refine (spec_l1In.calls ((rd_T103 l0 x5_1).f2) 0 127 true _ A15.out).mono ?_); exact fun _ _ h_ => ⟨h_.1, h_.2.out⟩))))
                                  have nBK103_ := Aside0.mk (blk_drewN (w := wc) BK103.out nq)
                                  have nHB_ := Aside0.mk (pw_below_drewN (W := wc) ⟨HB.out.os, HB.out.tape, HB.out.output, HB.out.size, HB.out.block⟩ nq)
                                  have nhx107_0_ : (wc.drewN nq).cell? _ = _ := hx107_0
                                  have nhx107_1_ : (wc.drewN nq).cell? _ = _ := hx107_1
                                  have nhx107_2_ : (wc.drewN nq).cell? _ = _ := hx107_2
                                  clear BK103 HB hx107_0 hx107_1 hx107_2 hq0_ hq1_ hq2_ hq3_ hq4_ hq5_
                                  have BK103 := nBK103_
                                  have HB := nHB_
                                  have hx107_0 := nhx107_0_
                                  have hx107_1 := nhx107_1_
                                  have hx107_2 := nhx107_2_
                                  clear nBK103_ nHB_ nhx107_0_ nhx107_1_ nhx107_2_
                                  generalize wc.drewN nq = w24 at BK103 HB hx107_0 hx107_1 hx107_2 ⊢
                                  try go_wp2
                                  go_ret
                                  exact ⟨by first | rfl | (simp [errW_none, errW_some] <;> rfl) | (simp only [← hji20]; first | rfl | (simp [errW_none, errW_some] <;> rfl)) | (simp [*, errW_none, errW_some] <;> rfl), by repeat (first | (with_reducible first | exact HB.out | apply below_alloc | apply pw_below_drewN | apply below_drew1 | refine below_set ?_ GE103.out) | exact HB.out)⟩
                                · rw [if_neg c23] at H
                                  have c23b0 : decide (((rd_T103 l0 (ji20)).f1) ≤ ((rd_T103 l0 x5_1).f1)) = false := decide_eq_false c23
                                  clear c23
                                  have H' := Aside0.mk H
                                  clear H
                                  try go_wp2
                                  have n0_ := Aside0.mk (blk_drew BK103.out)
                                  have n1_ := Aside0.mk (below_drew1 HB.out)
                                  clear BK103
                                  clear HB
                                  have BK103 := n0_
                                  have HB := n1_
                                  clear n0_ n1_
                                  have p107 : 0 ≤ ((ji20) : Int) := of_decide_eq_true (by first | (with_reducible assumption) | assumption)
                                  have q107 : (ji20) < (l0.length : Int) := of_decide_eq_true (by first | (with_reducible assumption) | assumption)
                                  obtain ⟨ad107, e107, hx107_0, hx107_1, hx107_2⟩ := at_T103 HR0.out (ji20) p107 q107
                                  have hw107_2 := hx107_2
                                  have hw107_1 := hx107_1
                                  have hw107_0 := hx107_0
                                  obtain rfl : ad102 = ad107 := (by injection e107)
                                  replace hx107_0 := (HB.out.cell (World.block_lt_of_cell? w _ hx107_0)).trans hx107_0
                                  replace hx107_1 := (HB.out.cell (World.block_lt_of_cell? w _ hx107_1)).trans hx107_1
                                  replace hx107_2 := (HB.out.cell (World.block_lt_of_cell? w _ hx107_2)).trans hx107_2
                                  replace p107 := eq_true p107
                                  replace q107 := eq_true q107
                                  have hq0_ : wc.cell? ⟨gb103, 0, none⟩ = some (.int .i64 ((rd_T103 l0 x5_1).f0)) := (blk_cell BK103.out 0).trans rfl
                                  have hq1_ : wc.cell? ⟨gb103, 1, none⟩ = some (.int .i64 ((rd_T103 l0 x5_1).f1)) := (blk_cell BK103.out 1).trans rfl
                                  have hq2_ : wc.cell? ⟨gb103, 2, none⟩ = some (.int .i64 ((rd_T103 l0 x5_1).f2)) := (blk_cell BK103.out 2).trans rfl
                                  have hq3_ : wc.cell? (ad102.add (((ji20)).toNat * 3)) = some (.int .i64 ((rd_T103 l0 (ji20)).f0)) := ((HB.out.cell (World.block_lt_of_cell? w _ hw107_0)).trans hw107_0)
                                  have hq4_ : wc.cell? ⟨(ad102.add (((ji20)).toNat * 3)).block, (ad102.add (((ji20)).toNat * 3)).off + 1, none⟩ = some (.int .i64 ((rd_T103 l0 (ji20)).f1)) := ((HB.out.cell (World.block_lt_of_cell? w _ hw107_1)).trans hw107_1)
                                  have hq5_ : wc.cell? ⟨(ad102.add (((ji20)).toNat * 3)).block, (ad102.add (((ji20)).toNat * 3)).off + 2, none⟩ = some (.int .i64 ((rd_T103 l0 (ji20)).f2)) := ((HB.out.cell (World.block_lt_of_cell? w _ hw107_2)).trans hw107_2)
                                  go_quiet ((first | (go_at_call 80; apply Calls.quiet_of; ((with_reducible refine (spec_l1In.calls ((rd_T103 l0 x5_1).f0) 1 3 true _ A11.out).mono ?_); exact fun _ _ h_ => ⟨h_.1, h_.2.out⟩)) | (go_at_call 80; apply Calls.quiet_of; ((with_reducible refine (spec_l1In.calls ((rd_T103 l0 x5_1).f1) 0 x7_6 true _ A13.out).mono ?_); exact fun _ _ h_ => ⟨h_.1, h_.2.out⟩)) | (go_at_call 80; apply Calls.quiet_of; ((with_reducible refine (spec_l1In.calls ((rd_T103 l0 x5_1).f2) 0 127 true _ A15.out).mono ?_); exact fun _ _ h_ => ⟨h_.1, h_.2.out⟩))))
                                  have nBK103_ := Aside0.mk (blk_drewN (w := wc) BK103.out nq)
                                  have nHB_ := Aside0.mk (pw_below_drewN (W := wc) ⟨HB.out.os, HB.out.tape, HB.out.output, HB.out.size, HB.out.block⟩ nq)
                                  have nhx107_0_ : (wc.drewN nq).cell? _ = _ := hx107_0
                                  have nhx107_1_ : (wc.drewN nq).cell? _ = _ := hx107_1
                                  have nhx107_2_ : (wc.drewN nq).cell? _ = _ := hx107_2
                                  clear BK103 HB hx107_0 hx107_1 hx107_2 hq0_ hq1_ hq2_ hq3_ hq4_ hq5_
                                  have BK103 := nBK103_
                                  have HB := nHB_
                                  have hx107_0 := nhx107_0_
                                  have hx107_1 := nhx107_1_
                                  have hx107_2 := nhx107_2_
                                  clear nBK103_ nHB_ nhx107_0_ nhx107_1_ nhx107_2_
                                  generalize wc.drewN nq = w25 at BK103 HB hx107_0 hx107_1 hx107_2 ⊢
                                  try go_wp2
                                  go_roundg kj6
                                  case measure => have := HK1.out; have := HJ6.out; omega
                                  case rel => exact ⟨(wrap64 (x5_1 + 1)), (by first | rfl | (simp; done) | (simp [*]; done)), H', ⟨by have := HK1.out; have := HJ6.out; omega⟩, ⟨by repeat (first | (with_reducible first | exact HB.out | apply below_alloc | apply pw_below_drewN | apply below_drew1 | refine below_set ?_ GE103.out) | exact HB.out)⟩⟩
                              · rw [if_neg c22] at H
                                exact absurd H (by simp)
                            · rw [if_neg c21] at H
                              exact absurd H (by simp)
                          · rw [if_neg c19] at H
                            have c19b0 : decide (0 < x5_1) = false := decide_eq_false c19
                            clear c19
                            have H' := Aside0.mk H
                            clear H
                            try go_wp2
                            have n0_ := Aside0.mk (blk_drew BK103.out)
                            have n1_ := Aside0.mk (below_drew1 HB.out)
                            clear BK103
                            clear HB
                            have BK103 := n0_
                            have HB := n1_
                            clear n0_ n1_
                            have hq0_ : wc.cell? ⟨gb103, 0, none⟩ = some (.int .i64 ((rd_T103 l0 x5_1).f0)) := (blk_cell BK103.out 0).trans rfl
                            have hq1_ : wc.cell? ⟨gb103, 1, none⟩ = some (.int .i64 ((rd_T103 l0 x5_1).f1)) := (blk_cell BK103.out 1).trans rfl
                            have hq2_ : wc.cell? ⟨gb103, 2, none⟩ = some (.int .i64 ((rd_T103 l0 x5_1).f2)) := (blk_cell BK103.out 2).trans rfl
                            go_quiet ((first | (go_at_call 80; apply Calls.quiet_of; ((with_reducible refine (spec_l1In.calls ((rd_T103 l0 x5_1).f0) 1 3 true _ A11.out).mono ?_); exact fun _ _ h_ => ⟨h_.1, h_.2.out⟩)) | (go_at_call 80; apply Calls.quiet_of; ((with_reducible refine (spec_l1In.calls ((rd_T103 l0 x5_1).f1) 0 x7_6 true _ A13.out).mono ?_); exact fun _ _ h_ => ⟨h_.1, h_.2.out⟩)) | (go_at_call 80; apply Calls.quiet_of; ((with_reducible refine (spec_l1In.calls ((rd_T103 l0 x5_1).f2) 0 127 true _ A15.out).mono ?_); exact fun _ _ h_ => ⟨h_.1, h_.2.out⟩))))
                            have nBK103_ := Aside0.mk (blk_drewN (w := wc) BK103.out nq)
                            have nHB_ := Aside0.mk (pw_below_drewN (W := wc) ⟨HB.out.os, HB.out.tape, HB.out.output, HB.out.size, HB.out.block⟩ nq)
                            clear BK103 HB hq0_ hq1_ hq2_
                            have BK103 := nBK103_
                            have HB := nHB_
                            clear nBK103_ nHB_
                            generalize wc.drewN nq = w26 at BK103 HB ⊢
                            try go_wp2
                            go_roundg kj6
                            case measure => have := HK1.out; have := HJ6.out; omega
                            case rel => exact ⟨(wrap64 (x5_1 + 1)), (by first | rfl | (simp; done) | (simp [*]; done)), H', ⟨by have := HK1.out; have := HJ6.out; omega⟩, ⟨by repeat (first | (with_reducible first | exact HB.out | apply below_alloc | apply pw_below_drewN | apply below_drew1 | refine below_set ?_ GE103.out) | exact HB.out)⟩⟩
                        · rw [if_neg c18] at H
                          have c18b0 : (((rd_T103 l0 x5_1).f2) == 0) = false := beq_eq_false_iff_ne.mpr c18
                          have c18b1 : (((rd_T103 l0 x5_1).f2) != 0) = true := bne_iff_ne.mpr c18
                          obtain rfl := Option.some.inj H
                          try go_wp2
                          have n0_ := Aside0.mk (blk_drew BK103.out)
                          have n1_ := Aside0.mk (below_drew1 HB.out)
                          clear BK103
                          clear HB
                          have BK103 := n0_
                          have HB := n1_
                          clear n0_ n1_
                          have hq0_ : wc.cell? ⟨gb103, 0, none⟩ = some (.int .i64 ((rd_T103 l0 x5_1).f0)) := (blk_cell BK103.out 0).trans rfl
                          have hq1_ : wc.cell? ⟨gb103, 1, none⟩ = some (.int .i64 ((rd_T103 l0 x5_1).f1)) := (blk_cell BK103.out 1).trans rfl
                          have hq2_ : wc.cell? ⟨gb103, 2, none⟩ = some (.int .i64 ((rd_T103 l0 x5_1).f2)) := (blk_cell BK103.out 2).trans rfl
                          go_quiet ((first | (go_at_call 80; apply Calls.quiet_of; ((with_reducible refine (spec_l1In.calls ((rd_T103 l0 x5_1).f0) 1 3 true _ A11.out).mono ?_); exact fun _ _ h_ => ⟨h_.1, h_.2.out⟩)) | (go_at_call 80; apply Calls.quiet_of; ((with_reducible refine (spec_l1In.calls ((rd_T103 l0 x5_1).f1) 0 x7_6 true _ A13.out).mono ?_); exact fun _ _ h_ => ⟨h_.1, h_.2.out⟩)) | (go_at_call 80; apply Calls.quiet_of; ((with_reducible refine (spec_l1In.calls ((rd_T103 l0 x5_1).f2) 0 127 true _ A15.out).mono ?_); exact fun _ _ h_ => ⟨h_.1, h_.2.out⟩))))
                          have nBK103_ := Aside0.mk (blk_drewN (w := wc) BK103.out nq)
                          have nHB_ := Aside0.mk (pw_below_drewN (W := wc) ⟨HB.out.os, HB.out.tape, HB.out.output, HB.out.size, HB.out.block⟩ nq)
                          clear BK103 HB hq0_ hq1_ hq2_
                          have BK103 := nBK103_
                          have HB := nHB_
                          clear nBK103_ nHB_
                          generalize wc.drewN nq = w27 at BK103 HB ⊢
                          try go_wp2
                          go_ret
                          exact ⟨by first | rfl | (simp [errW_none, errW_some] <;> rfl) | (simp [*, errW_none, errW_some] <;> rfl), by repeat (first | (with_reducible first | exact HB.out | apply below_alloc | apply pw_below_drewN | apply below_drew1 | refine below_set ?_ GE103.out) | exact HB.out)⟩
                      · rw [if_neg c17] at H
                        have c17b0 : (((rd_T103 l0 x5_1).f0) == 2) = false := beq_eq_false_iff_ne.mpr c17
                        have c17b1 : (((rd_T103 l0 x5_1).f0) != 2) = true := bne_iff_ne.mpr c17
                        by_cases c28 : x5_1 > 0
                        · rw [if_pos c28] at H
                          have c28b0 : decide (0 < x5_1) = true := decide_eq_true c28
                          clear c28
                          obtain ⟨ji29, hji29⟩ : ∃ j_ : Int, (wrap64 (x5_1 - 1)) = j_ := ⟨_, rfl⟩
                          replace H : (if 0 ≤ (ji29) then (if (ji29) < (l0.length : Int) then (if ((rd_T103 l0 (ji29)).f1) ≤ ((rd_T103 l0 x5_1).f1) then (some false) else (spec_AreSlips.l0 kj6 l0 a1 (wrap64 (x5_1 + 1)))) else (none)) else (none)) = some r := by first | (rw [hji29] at H; exact H) | (simp only [hji29] at H ⊢; exact H)
                          (try rw [hji29] at A11)
                          (try rw [hji29] at A13)
                          (try rw [hji29] at A15)
                          have hji29w : (IntKind.i64.wrap (x5_1 - 1)) = ji29 := (i64_w _).trans hji29
                          by_cases c30 : 0 ≤ (ji29)
                          · rw [if_pos c30] at H
                            have c30b0 : decide (0 ≤ (ji29)) = true := decide_eq_true c30
                            clear c30
                            by_cases c31 : (ji29) < (l0.length : Int)
                            · rw [if_pos c31] at H
                              have c31b0 : decide ((ji29) < (l0.length : Int)) = true := decide_eq_true c31
                              clear c31
                              by_cases c32 : ((rd_T103 l0 (ji29)).f1) ≤ ((rd_T103 l0 x5_1).f1)
                              · rw [if_pos c32] at H
                                have c32b0 : decide (((rd_T103 l0 (ji29)).f1) ≤ ((rd_T103 l0 x5_1).f1)) = true := decide_eq_true c32
                                clear c32
                                obtain rfl := Option.some.inj H
                                try go_wp2
                                have n0_ := Aside0.mk (blk_drew BK103.out)
                                have n1_ := Aside0.mk (below_drew1 HB.out)
                                clear BK103
                                clear HB
                                have BK103 := n0_
                                have HB := n1_
                                clear n0_ n1_
                                have p108 : 0 ≤ ((ji29) : Int) := of_decide_eq_true (by first | (with_reducible assumption) | assumption)
                                have q108 : (ji29) < (l0.length : Int) := of_decide_eq_true (by first | (with_reducible assumption) | assumption)
                                obtain ⟨ad108, e108, hx108_0, hx108_1, hx108_2⟩ := at_T103 HR0.out (ji29) p108 q108
                                have hw108_2 := hx108_2
                                have hw108_1 := hx108_1
                                have hw108_0 := hx108_0
                                obtain rfl : ad102 = ad108 := (by injection e108)
                                replace hx108_0 := (HB.out.cell (World.block_lt_of_cell? w _ hx108_0)).trans hx108_0
                                replace hx108_1 := (HB.out.cell (World.block_lt_of_cell? w _ hx108_1)).trans hx108_1
                                replace hx108_2 := (HB.out.cell (World.block_lt_of_cell? w _ hx108_2)).trans hx108_2
                                replace p108 := eq_true p108
                                replace q108 := eq_true q108
                                have hq0_ : wc.cell? ⟨gb103, 0, none⟩ = some (.int .i64 ((rd_T103 l0 x5_1).f0)) := (blk_cell BK103.out 0).trans rfl
                                have hq1_ : wc.cell? ⟨gb103, 1, none⟩ = some (.int .i64 ((rd_T103 l0 x5_1).f1)) := (blk_cell BK103.out 1).trans rfl
                                have hq2_ : wc.cell? ⟨gb103, 2, none⟩ = some (.int .i64 ((rd_T103 l0 x5_1).f2)) := (blk_cell BK103.out 2).trans rfl
                                have hq3_ : wc.cell? (ad102.add (((ji29)).toNat * 3)) = some (.int .i64 ((rd_T103 l0 (ji29)).f0)) := ((HB.out.cell (World.block_lt_of_cell? w _ hw108_0)).trans hw108_0)
                                have hq4_ : wc.cell? ⟨(ad102.add (((ji29)).toNat * 3)).block, (ad102.add (((ji29)).toNat * 3)).off + 1, none⟩ = some (.int .i64 ((rd_T103 l0 (ji29)).f1)) := ((HB.out.cell (World.block_lt_of_cell? w _ hw108_1)).trans hw108_1)
                                have hq5_ : wc.cell? ⟨(ad102.add (((ji29)).toNat * 3)).block, (ad102.add (((ji29)).toNat * 3)).off + 2, none⟩ = some (.int .i64 ((rd_T103 l0 (ji29)).f2)) := ((HB.out.cell (World.block_lt_of_cell? w _ hw108_2)).trans hw108_2)
                                go_quiet ((first | (go_at_call 80; apply Calls.quiet_of; ((with_reducible refine (spec_l1In.calls ((rd_T103 l0 x5_1).f0) 1 3 true _ A11.out).mono ?_); exact fun _ _ h_ => ⟨h_.1, h_.2.out⟩)) | (go_at_call 80; apply Calls.quiet_of; ((with_reducible refine (spec_l1In.calls ((rd_T103 l0 x5_1).f1) 0 x7_6 true _ A13.out).mono ?_); exact fun _ _ h_ => ⟨h_.1, h_.2.out⟩)) | (go_at_call 80; apply Calls.quiet_of; ((with_reducible refine (spec_l1In.calls ((rd_T103 l0 x5_1).f2) 0 127 true _ A15.out).mono ?_); exact fun _ _ h_ => ⟨h_.1, h_.2.out⟩))))
                                have nBK103_ := Aside0.mk (blk_drewN (w := wc) BK103.out nq)
                                have nHB_ := Aside0.mk (pw_below_drewN (W := wc) ⟨HB.out.os, HB.out.tape, HB.out.output, HB.out.size, HB.out.block⟩ nq)
                                have nhx108_0_ : (wc.drewN nq).cell? _ = _ := hx108_0
                                have nhx108_1_ : (wc.drewN nq).cell? _ = _ := hx108_1
                                have nhx108_2_ : (wc.drewN nq).cell? _ = _ := hx108_2
                                clear BK103 HB hx108_0 hx108_1 hx108_2 hq0_ hq1_ hq2_ hq3_ hq4_ hq5_
                                have BK103 := nBK103_
                                have HB := nHB_
                                have hx108_0 := nhx108_0_
                                have hx108_1 := nhx108_1_
                                have hx108_2 := nhx108_2_
                                clear nBK103_ nHB_ nhx108_0_ nhx108_1_ nhx108_2_
                                generalize wc.drewN nq = w33 at BK103 HB hx108_0 hx108_1 hx108_2 ⊢
                                try go_wp2
                                go_ret
                                exact ⟨by first | rfl | (simp [errW_none, errW_some] <;> rfl) | (simp only [← hji29]; first | rfl | (simp [errW_none, errW_some] <;> rfl)) | (simp [*, errW_none, errW_some] <;> rfl), by repeat (first | (with_reducible first | exact HB.out | apply below_alloc | apply pw_below_drewN | apply below_drew1 | refine below_set ?_ GE103.out) | exact HB.out)⟩
                              · rw [if_neg c32] at H
                                have c32b0 : decide (((rd_T103 l0 (ji29)).f1) ≤ ((rd_T103 l0 x5_1).f1)) = false := decide_eq_false c32
                                clear c32
                                have H' := Aside0.mk H
                                clear H
                                try go_wp2
                                have n0_ := Aside0.mk (blk_drew BK103.out)
                                have n1_ := Aside0.mk (below_drew1 HB.out)
                                clear BK103
                                clear HB
                                have BK103 := n0_
                                have HB := n1_
                                clear n0_ n1_
                                have p108 : 0 ≤ ((ji29) : Int) := of_decide_eq_true (by first | (with_reducible assumption) | assumption)
                                have q108 : (ji29) < (l0.length : Int) := of_decide_eq_true (by first | (with_reducible assumption) | assumption)
                                obtain ⟨ad108, e108, hx108_0, hx108_1, hx108_2⟩ := at_T103 HR0.out (ji29) p108 q108
                                have hw108_2 := hx108_2
                                have hw108_1 := hx108_1
                                have hw108_0 := hx108_0
                                obtain rfl : ad102 = ad108 := (by injection e108)
                                replace hx108_0 := (HB.out.cell (World.block_lt_of_cell? w _ hx108_0)).trans hx108_0
                                replace hx108_1 := (HB.out.cell (World.block_lt_of_cell? w _ hx108_1)).trans hx108_1
                                replace hx108_2 := (HB.out.cell (World.block_lt_of_cell? w _ hx108_2)).trans hx108_2
                                replace p108 := eq_true p108
                                replace q108 := eq_true q108
                                have hq0_ : wc.cell? ⟨gb103, 0, none⟩ = some (.int .i64 ((rd_T103 l0 x5_1).f0)) := (blk_cell BK103.out 0).trans rfl
                                have hq1_ : wc.cell? ⟨gb103, 1, none⟩ = some (.int .i64 ((rd_T103 l0 x5_1).f1)) := (blk_cell BK103.out 1).trans rfl
                                have hq2_ : wc.cell? ⟨gb103, 2, none⟩ = some (.int .i64 ((rd_T103 l0 x5_1).f2)) := (blk_cell BK103.out 2).trans rfl
                                have hq3_ : wc.cell? (ad102.add (((ji29)).toNat * 3)) = some (.int .i64 ((rd_T103 l0 (ji29)).f0)) := ((HB.out.cell (World.block_lt_of_cell? w _ hw108_0)).trans hw108_0)
                                have hq4_ : wc.cell? ⟨(ad102.add (((ji29)).toNat * 3)).block, (ad102.add (((ji29)).toNat * 3)).off + 1, none⟩ = some (.int .i64 ((rd_T103 l0 (ji29)).f1)) := ((HB.out.cell (World.block_lt_of_cell? w _ hw108_1)).trans hw108_1)
                                have hq5_ : wc.cell? ⟨(ad102.add (((ji29)).toNat * 3)).block, (ad102.add (((ji29)).toNat * 3)).off + 2, none⟩ = some (.int .i64 ((rd_T103 l0 (ji29)).f2)) := ((HB.out.cell (World.block_lt_of_cell? w _ hw108_2)).trans hw108_2)
                                go_quiet ((first | (go_at_call 80; apply Calls.quiet_of; ((with_reducible refine (spec_l1In.calls ((rd_T103 l0 x5_1).f0) 1 3 true _ A11.out).mono ?_); exact fun _ _ h_ => ⟨h_.1, h_.2.out⟩)) | (go_at_call 80; apply Calls.quiet_of; ((with_reducible refine (spec_l1In.calls ((rd_T103 l0 x5_1).f1) 0 x7_6 true _ A13.out).mono ?_); exact fun _ _ h_ => ⟨h_.1, h_.2.out⟩)) | (go_at_call 80; apply Calls.quiet_of; ((with_reducible refine (spec_l1In.calls ((rd_T103 l0 x5_1).f2) 0 127 true _ A15.out).mono ?_); exact fun _ _ h_ => ⟨h_.1, h_.2.out⟩))))
                                have nBK103_ := Aside0.mk (blk_drewN (w := wc) BK103.out nq)
                                have nHB_ := Aside0.mk (pw_below_drewN (W := wc) ⟨HB.out.os, HB.out.tape, HB.out.output, HB.out.size, HB.out.block⟩ nq)
                                have nhx108_0_ : (wc.drewN nq).cell? _ = _ := hx108_0
                                have nhx108_1_ : (wc.drewN nq).cell? _ = _ := hx108_1
                                have nhx108_2_ : (wc.drewN nq).cell? _ = _ := hx108_2
                                clear BK103 HB hx108_0 hx108_1 hx108_2 hq0_ hq1_ hq2_ hq3_ hq4_ hq5_
                                have BK103 := nBK103_
                                have HB := nHB_
                                have hx108_0 := nhx108_0_
                                have hx108_1 := nhx108_1_
                                have hx108_2 := nhx108_2_
                                clear nBK103_ nHB_ nhx108_0_ nhx108_1_ nhx108_2_
                                generalize wc.drewN nq = w34 at BK103 HB hx108_0 hx108_1 hx108_2 ⊢
                                try go_wp2
                                go_roundg kj6
                                case measure => have := HK1.out; have := HJ6.out; omega
                                case rel => exact ⟨(wrap64 (x5_1 + 1)), (by first | rfl | (simp; done) | (simp [*]; done)), H', ⟨by have := HK1.out; have := HJ6.out; omega⟩, ⟨by repeat (first | (with_reducible first | exact HB.out | apply below_alloc | apply pw_below_drewN | apply below_drew1 | refine below_set ?_ GE103.out) | exact HB.out)⟩⟩
                            · rw [if_neg c31] at H
                              exact absurd H (by simp)
                          · rw [if_neg c30] at H
                            exact absurd H (by simp)
                        · rw [if_neg c28] at H
                          have c28b0 : decide (0 < x5_1) = false := decide_eq_false c28
                          clear c28
                          have H' := Aside0.mk H
                          clear H
                          try go_wp2
                          have n0_ := Aside0.mk (blk_drew BK103.out)
                          have n1_ := Aside0.mk (below_drew1 HB.out)
                          clear BK103
                          clear HB
                          have BK103 := n0_
                          have HB := n1_
                          clear n0_ n1_
                          have hq0_ : wc.cell? ⟨gb103, 0, none⟩ = some (.int .i64 ((rd_T103 l0 x5_1).f0)) := (blk_cell BK103.out 0).trans rfl
                          have hq1_ : wc.cell? ⟨gb103, 1, none⟩ = some (.int .i64 ((rd_T103 l0 x5_1).f1)) := (blk_cell BK103.out 1).trans rfl
                          have hq2_ : wc.cell? ⟨gb103, 2, none⟩ = some (.int .i64 ((rd_T103 l0 x5_1).f2)) := (blk_cell BK103.out 2).trans rfl
                          go_quiet ((first | (go_at_call 80; apply Calls.quiet_of; ((with_reducible refine (spec_l1In.calls ((rd_T103 l0 x5_1).f0) 1 3 true _ A11.out).mono ?_); exact fun _ _ h_ => ⟨h_.1, h_.2.out⟩)) | (go_at_call 80; apply Calls.quiet_of; ((with_reducible refine (spec_l1In.calls ((rd_T103 l0 x5_1).f1) 0 x7_6 true _ A13.out).mono ?_); exact fun _ _ h_ => ⟨h_.1, h_.2.out⟩)) | (go_at_call 80; apply Calls.quiet_of; ((with_reducible refine (spec_l1In.calls ((rd_T103 l0 x5_1).f2) 0 127 true _ A15.out).mono ?_); exact fun _ _ h_ => ⟨h_.1, h_.2.out⟩))))
                          have nBK103_ := Aside0.mk (blk_drewN (w := wc) BK103.out nq)
                          have nHB_ := Aside0.mk (pw_below_drewN (W := wc) ⟨HB.out.os, HB.out.tape, HB.out.output, HB.out.size, HB.out.block⟩ nq)
                          clear BK103 HB hq0_ hq1_ hq2_
                          have BK103 := nBK103_
                          have HB := nHB_
                          clear nBK103_ nHB_
                          generalize wc.drewN nq = w35 at BK103 HB ⊢
                          try go_wp2
                          go_roundg kj6
                          case measure => have := HK1.out; have := HJ6.out; omega
                          case rel => exact ⟨(wrap64 (x5_1 + 1)), (by first | rfl | (simp; done) | (simp [*]; done)), H', ⟨by have := HK1.out; have := HJ6.out; omega⟩, ⟨by repeat (first | (with_reducible first | exact HB.out | apply below_alloc | apply pw_below_drewN | apply below_drew1 | refine below_set ?_ GE103.out) | exact HB.out)⟩⟩
                    · replace c16 := Bool.eq_false_iff.mpr c16
                      subst c16
                      have H1 : (some false) = some r := by rw [if_neg (show ¬ (false = true) by decide)] at H; exact H
                      clear H
                      have H := H1
                      clear H1
                      obtain rfl := Option.some.inj H
                      try go_wp2
                      have n0_ := Aside0.mk (blk_drew BK103.out)
                      have n1_ := Aside0.mk (below_drew1 HB.out)
                      clear BK103
                      clear HB
                      have BK103 := n0_
                      have HB := n1_
                      clear n0_ n1_
                      have hq0_ : wc.cell? ⟨gb103, 0, none⟩ = some (.int .i64 ((rd_T103 l0 x5_1).f0)) := (blk_cell BK103.out 0).trans rfl
                      have hq1_ : wc.cell? ⟨gb103, 1, none⟩ = some (.int .i64 ((rd_T103 l0 x5_1).f1)) := (blk_cell BK103.out 1).trans rfl
                      have hq2_ : wc.cell? ⟨gb103, 2, none⟩ = some (.int .i64 ((rd_T103 l0 x5_1).f2)) := (blk_cell BK103.out 2).trans rfl
                      go_quiet ((first | (go_at_call 80; apply Calls.quiet_of; ((with_reducible refine (spec_l1In.calls ((rd_T103 l0 x5_1).f0) 1 3 true _ A11.out).mono ?_); exact fun _ _ h_ => ⟨h_.1, h_.2.out⟩)) | (go_at_call 80; apply Calls.quiet_of; ((with_reducible refine (spec_l1In.calls ((rd_T103 l0 x5_1).f1) 0 x7_6 true _ A13.out).mono ?_); exact fun _ _ h_ => ⟨h_.1, h_.2.out⟩)) | (go_at_call 80; apply Calls.quiet_of; ((with_reducible refine (spec_l1In.calls ((rd_T103 l0 x5_1).f2) 0 127 false _ A15.out).mono ?_); exact fun _ _ h_ => ⟨h_.1, h_.2.out⟩))))
                      have nBK103_ := Aside0.mk (blk_drewN (w := wc) BK103.out nq)
                      have nHB_ := Aside0.mk (pw_below_drewN (W := wc) ⟨HB.out.os, HB.out.tape, HB.out.output, HB.out.size, HB.out.block⟩ nq)
                      clear BK103 HB hq0_ hq1_ hq2_
                      have BK103 := nBK103_
                      have HB := nHB_
                      clear nBK103_ nHB_
                      generalize wc.drewN nq = w36 at BK103 HB ⊢
                      try go_wp2
                      go_ret
                      exact ⟨by first | rfl | (simp [errW_none, errW_some] <;> rfl) | (simp [*, errW_none, errW_some] <;> rfl), by repeat (first | (with_reducible first | exact HB.out | apply below_alloc | apply pw_below_drewN | apply below_drew1 | refine below_set ?_ GE103.out) | exact HB.out)⟩
                  · replace c14 := Bool.eq_false_iff.mpr c14
                    subst c14
                    have H1 : (some false) = some r := by rw [if_neg (show ¬ (false = true) by decide)] at H; exact H
                    clear H
                    have H := H1
                    clear H1
                    obtain rfl := Option.some.inj H
                    try go_wp2
                    have n0_ := Aside0.mk (blk_drew BK103.out)
                    have n1_ := Aside0.mk (below_drew1 HB.out)
                    clear BK103
                    clear HB
                    have BK103 := n0_
                    have HB := n1_
                    clear n0_ n1_
                    have hq0_ : wc.cell? ⟨gb103, 0, none⟩ = some (.int .i64 ((rd_T103 l0 x5_1).f0)) := (blk_cell BK103.out 0).trans rfl
                    have hq1_ : wc.cell? ⟨gb103, 1, none⟩ = some (.int .i64 ((rd_T103 l0 x5_1).f1)) := (blk_cell BK103.out 1).trans rfl
                    have hq2_ : wc.cell? ⟨gb103, 2, none⟩ = some (.int .i64 ((rd_T103 l0 x5_1).f2)) := (blk_cell BK103.out 2).trans rfl
                    go_quiet ((first | (go_at_call 80; apply Calls.quiet_of; ((with_reducible refine (spec_l1In.calls ((rd_T103 l0 x5_1).f0) 1 3 true _ A11.out).mono ?_); exact fun _ _ h_ => ⟨h_.1, h_.2.out⟩)) | (go_at_call 80; apply Calls.quiet_of; ((with_reducible refine (spec_l1In.calls ((rd_T103 l0 x5_1).f1) 0 x7_6 false _ A13.out).mono ?_); exact fun _ _ h_ => ⟨h_.1, h_.2.out⟩))))
                    have nBK103_ := Aside0.mk (blk_drewN (w := wc) BK103.out nq)
                    have nHB_ := Aside0.mk (pw_below_drewN (W := wc) ⟨HB.out.os, HB.out.tape, HB.out.output, HB.out.size, HB.out.block⟩ nq)
                    clear BK103 HB hq0_ hq1_ hq2_
                    have BK103 := nBK103_
                    have HB := nHB_
                    clear nBK103_ nHB_
                    generalize wc.drewN nq = w37 at BK103 HB ⊢
                    try go_wp2
                    go_ret
                    exact ⟨by first | rfl | (simp [errW_none, errW_some] <;> rfl) | (simp [*, errW_none, errW_some] <;> rfl), by repeat (first | (with_reducible first | exact HB.out | apply below_alloc | apply pw_below_drewN | apply below_drew1 | refine below_set ?_ GE103.out) | exact HB.out)⟩
                · replace c12 := Bool.eq_false_iff.mpr c12
                  subst c12
                  have H1 : (some false) = some r := by rw [if_neg (show ¬ (false = true) by decide)] at H; exact H
                  clear H
                  have H := H1
                  clear H1
                  obtain rfl := Option.some.inj H
                  try go_wp2
                  have n0_ := Aside0.mk (blk_drew BK103.out)
                  have n1_ := Aside0.mk (below_drew1 HB.out)
                  clear BK103
                  clear HB
                  have BK103 := n0_
                  have HB := n1_
                  clear n0_ n1_
                  have hq0_ : wc.cell? ⟨gb103, 0, none⟩ = some (.int .i64 ((rd_T103 l0 x5_1).f0)) := (blk_cell BK103.out 0).trans rfl
                  have hq1_ : wc.cell? ⟨gb103, 1, none⟩ = some (.int .i64 ((rd_T103 l0 x5_1).f1)) := (blk_cell BK103.out 1).trans rfl
                  have hq2_ : wc.cell? ⟨gb103, 2, none⟩ = some (.int .i64 ((rd_T103 l0 x5_1).f2)) := (blk_cell BK103.out 2).trans rfl
                  go_quiet ((first | (go_at_call 80; apply Calls.quiet_of; ((with_reducible refine (spec_l1In.calls ((rd_T103 l0 x5_1).f0) 1 3 false _ A11.out).mono ?_); exact fun _ _ h_ => ⟨h_.1, h_.2.out⟩))))
                  have nBK103_ := Aside0.mk (blk_drewN (w := wc) BK103.out nq)
                  have nHB_ := Aside0.mk (pw_below_drewN (W := wc) ⟨HB.out.os, HB.out.tape, HB.out.output, HB.out.size, HB.out.block⟩ nq)
                  clear BK103 HB hq0_ hq1_ hq2_
                  have BK103 := nBK103_
                  have HB := nHB_
                  clear nBK103_ nHB_
                  generalize wc.drewN nq = w38 at BK103 HB ⊢
                  try go_wp2
                  go_ret
                  exact ⟨by first | rfl | (simp [errW_none, errW_some] <;> rfl) | (simp [*, errW_none, errW_some] <;> rfl), by repeat (first | (with_reducible first | exact HB.out | apply below_alloc | apply pw_below_drewN | apply below_drew1 | refine below_set ?_ GE103.out) | exact HB.out)⟩
          · rw [if_neg c6] at H
            exact absurd H (by simp)
        · rw [if_neg c5] at H
          have c5b0 : decide (x5_1 < (l0.length : Int)) = false := decide_eq_false c5
          clear c5
          obtain rfl := Option.some.inj H
          go_wp2
          go_ret
          exact ⟨by first | rfl | (simp [errW_none, errW_some] <;> rfl) | (simp [*, errW_none, errW_some] <;> rfl), by repeat (first | (with_reducible first | exact HB.out | apply below_alloc | apply pw_below_drewN | apply below_drew1) | exact HB.out)⟩
  · replace c4 := Bool.eq_false_iff.mpr c4
    subst c4
    have H1 : (some false) = some r := by rw [if_neg (show ¬ (false = true) by decide)] at H; exact H
    clear H
    have H := H1
    clear H1
    obtain rfl := Option.some.inj H
    go_enter Try.func16, Try.ntmps16
    go_wp2_with (first | ((with_reducible refine gate_callee (f := 80) rfl ?_); refine goesL_ (some 9) rfl rfl Try.func80 (by kernel_rfl) rfl #[.int .i64 a1, .int .i64 0, .int .i64 1000] rfl (by (try simp only [List.map_toArray, List.map_cons, List.map_nil]); first | done | rfl | (simp only [List.length_drop, List.length_take]; rfl)) ?_; (with_reducible refine (spec_l1In.calls a1 0 1000 false _ A3.out).mono ?_); rintro e w' ⟨rfl, ⟨nd, rfl⟩⟩; refine ⟨_, rfl, ?_⟩))
    go_ret
    exact ⟨by first | rfl | (simp [errW_none, errW_some] <;> rfl) | (simp [*, errW_none, errW_some] <;> rfl), by repeat (first | (with_reducible first | exact HB.out | apply below_alloc | apply pw_below_drewN | apply below_drew1) | exact HB.out)⟩

end Go.Proofs.Ytiophiipmgpaeaa.F
