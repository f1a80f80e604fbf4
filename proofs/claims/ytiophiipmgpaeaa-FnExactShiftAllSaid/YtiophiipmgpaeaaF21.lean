-- Written for this claim by the kit's print.py out of the translation, called by wip/tools/fprint.py. Lean checks it.
import Derived.Test.YtiophiipmgpaeaaF0
import Derived.Test.YtiophiipmgpaeaaF6
namespace Go.Proofs.Ytiophiipmgpaeaa.F
open Go.RowKit Go.Proofs.YtiophiipmgpaeaaW.PrintWords Go.Proofs.YtiophiipmgpaeaaW.PrintLast Go.Proofs.YtiophiipmgpaeaaW.PrintMore
attribute [local go_sem] max2_int min2_int max_two min_two max_three min_three max_four min_four   -- for this text's walks alone
set_option linter.unusedVariables false
set_option linter.unusedSimpArgs false

/-! ### impl_IsPerformance: function 86 -/
def impl_IsPerformance.l0 : Nat → List (S109) → List (S109) → Int → Int → Option (Bool)
  | 0, _, _, _, _ => none
  | k + 1, x0, x5, x6, x7 => if x7 < x6 then (if 0 ≤ x7 then (if x7 < (x5.length : Int) then ((impl_InRange.f ((rd_T109 x5 x7).f0) 0 10000000).bind fun t216 => (if t216 = true then ((impl_InRange.f ((rd_T109 x5 x7).f1) 0 127).bind fun t217 => (if t217 = true then (if x7 > 0 then (if 0 ≤ (wrap64 (x7 - 1)) then (if (wrap64 (x7 - 1)) < (x0.length : Int) then (if ((rd_T109 x0 (wrap64 (x7 - 1))).f0) > ((rd_T109 x5 x7).f0) then (some false) else (if ((rd_T109 x0 (wrap64 (x7 - 1))).f0) = ((rd_T109 x5 x7).f0) then (if ((rd_T109 x0 (wrap64 (x7 - 1))).f1) > ((rd_T109 x5 x7).f1) then (some false) else (impl_IsPerformance.l0 k x0 x5 x6 (wrap64 (x7 + 1)))) else (impl_IsPerformance.l0 k x0 x5 x6 (wrap64 (x7 + 1))))) else (none)) else (none)) else (impl_IsPerformance.l0 k x0 x5 x6 (wrap64 (x7 + 1)))) else (some false))) else (some false))) else (none)) else (none)) else (some (decide ((x0.length : Int) ≤ 60)))
def impl_IsPerformance.f (k : Nat) (l0 : List (S109)) : Option (Bool) := impl_IsPerformance.l0 k l0 l0 (l0.length : Int) 0
theorem impl_IsPerformance.mono_l : ∀ k, (∀ y0 y1 y2 y3, LeO (impl_IsPerformance.l0 k y0 y1 y2 y3) (impl_IsPerformance.l0 (k + 1) y0 y1 y2 y3))
  | 0 => fun _ _ _ _ r h => by simp [impl_IsPerformance.l0] at h
  | k + 1 => by
    have ih0 := impl_IsPerformance.mono_l k
    · intro y0 y1 y2 y3
      unfold impl_IsPerformance.l0
      repeat' first
      | (with_reducible exact ih0 _ _ _ _)
      | (with_reducible exact LeO.refl _)
      | (with_reducible exact LeO.none _)
      | (with_reducible refine LeO.ite ?_ ?_)
      | (with_reducible refine LeO.bind ?_ (fun _ => ?_))
      | exact ih0 _ _ _ _
      | exact LeO.none _
      | refine LeO.ite ?_ ?_
      | refine LeO.bind ?_ (fun _ => ?_)
theorem impl_IsPerformance.mono : ∀ a0 k, LeO (impl_IsPerformance.f k a0) (impl_IsPerformance.f (k + 1) a0) := by
  intro a0 k
  have ih0 := impl_IsPerformance.mono_l k
  unfold impl_IsPerformance.f
  repeat' first
      | (with_reducible exact ih0 _ _ _ _)
      | (with_reducible exact LeO.refl _)
      | (with_reducible exact LeO.none _)
      | (with_reducible refine LeO.ite ?_ ?_)
      | (with_reducible refine LeO.bind ?_ (fun _ => ?_))
      | exact ih0 _ _ _ _
      | exact LeO.none _
      | refine LeO.ite ?_ ?_
      | refine LeO.bind ?_ (fun _ => ?_)
def impl_IsPerformance.T4 : Bool × List (List Nat × List Nat) := (true, [([], []), ([0], [0]), ([1], [1]), ([2], [2]), ([3, 2], [3]), ([4], [4]), ([5, 4], [4, 5]), ([6, 4, 4], [4, 6]), ([7, 4], [4, 7]), ([4, 8], [4, 8]), ([9, 7], [9]), ([10], [10]), ([11, 10], [10, 11]), ([12, 10, 10], [10, 12]), ([13], [13]), ([13], [13]), ([15, 13], [13, 15]), ([14, 16, 13], [13, 14, 16]), ([17, 13], [13, 17]), ([18, 13], [13, 18]), ([13], [13]), ([20, 13], [13, 20]), ([19, 21, 13], [13, 19, 21]), ([22, 13, 13], [13, 22]), ([23], [23]), ([23], [23]), ([25, 23], [23, 25]), ([24, 26, 23], [23, 24, 26]), ([27, 23], [23, 27]), ([28, 23], [23, 28]), ([23], [23]), ([30, 23], [23, 30]), ([29, 31, 23], [23, 29, 31]), ([32, 23, 23], [23, 32]), ([33], [33]), ([33], [33]), ([35, 33], [33, 35]), ([34, 36, 33], [33, 34, 36]), ([37, 33], [33, 37]), ([38, 33], [33, 38]), ([33], [33]), ([40, 33], [33, 40]), ([39, 41, 33], [33, 39, 41]), ([33, 42, 23], [23, 33, 42]), ([23, 43, 13], [13, 23, 43]), ([13, 44, 10], [10, 13, 44]), ([10, 45], [10, 45])])
def impl_IsPerformance.B4 : List Nat := [0, 1, 3, 7, 15, 31, 63, 127, 255, 511, 1023, 2047, 4095, 8191, 16383, 16383, 49151, 131071, 262143, 524287, 16383, 1064959, 4194303, 8388607, 16777215, 16777215, 50331647, 134217727, 268435455, 536870911, 16777215, 1090519039, 4294967295, 8589934591, 17179869183, 17179869183, 51539607551, 137438953471, 274877906943, 549755813887, 17179869183, 1116691496959, 4398046511103, 8796093022207, 17592186044415, 35184372088831, 70368744177663]
theorem impl_IsPerformance.tab4 : rtab .any (opsOf Try.f86 4) = impl_IsPerformance.T4 := by kernel_rfl
theorem impl_IsPerformance.bits4 : waitsOk impl_IsPerformance.T4.2 impl_IsPerformance.B4 = true := by kernel_rfl
set_option maxHeartbeats 8000000 in
set_option maxRecDepth 100000 in
theorem impl_IsPerformance.calls (k : Nat) (A0 : Option Addr) (c0 : Nat) (l0 : List (S109)) (r : Bool) (w : World) (hr0 : Kd.C k109 w A0 l0.length l0) (hc0 : l0.length ≤ c0) (h : impl_IsPerformance.f k l0 = some r) :
    Calls Try.prog 86 #[.slice A0 l0.length c0] w fun e w' => e = .returned (.bool r) ∧ Below w.heap.size w w' := by
  have hu109 := Try.underlying109
  have HR0 := Aside0.mk hr0
  have HC0 := Aside0.mk hc0
  clear hr0 hc0
  have HB := Aside0.mk (Below.refl w.heap.size w)
  have H : (impl_IsPerformance.l0 k l0 l0 (l0.length : Int) 0) = some r := h
  clear h
  have H' := Aside0.mk H
  clear H
  go_enter Try.func86, Try.ntmps86
  go_wp2
  go_loopg [7] k (fun kq v7 w' => ∃ (x7_1 : Int), v7 = .int .i64 x7_1 ∧ Aside0 (impl_IsPerformance.l0 kq l0 l0 (l0.length : Int) x7_1 = some r) ∧ Aside0 (kq ≤ k) ∧ Aside0 (Below w.heap.size w w'))
  case atStart => exact ⟨(0), (by first | rfl | (simp; done) | (simp [*]; done)), H', ⟨Nat.le_refl _⟩, ⟨by repeat (first | (with_reducible first | exact HB.out | apply below_alloc | apply pw_below_drewN | apply below_drew1) | exact HB.out)⟩⟩
  case round =>
    clear H'
    obtain ⟨x7_1, rfl, HA, HK1, HB⟩ := hrel
    cases gk with
    | zero => exact absurd HA.out (by simp [impl_IsPerformance.l0])
    | succ k1 =>
      have H := HA.out
      clear HA
      simp only [impl_IsPerformance.l0] at H
      by_cases c2 : x7_1 < (l0.length : Int)
      · rw [if_pos c2] at H
        have c2b0 : decide (x7_1 < (l0.length : Int)) = true := decide_eq_true c2
        clear c2
        by_cases c3 : 0 ≤ x7_1
        · rw [if_pos c3] at H
          have c3b0 : decide (0 ≤ x7_1) = true := decide_eq_true c3
          clear c3
          by_cases c4 : x7_1 < (l0.length : Int)
          · rw [if_pos c4] at H
            have c4b0 : decide (x7_1 < (l0.length : Int)) = true := decide_eq_true c4
            clear c4
            replace H := Option.bind_eq_some_iff.mp H
            obtain ⟨t216, A50, H⟩ := H
            replace H : (if t216 = true then ((impl_InRange.f ((rd_T109 l0 x7_1).f1) 0 127).bind fun t217 => (if t217 = true then (if x7_1 > 0 then (if 0 ≤ (wrap64 (x7_1 - 1)) then (if (wrap64 (x7_1 - 1)) < (l0.length : Int) then (if ((rd_T109 l0 (wrap64 (x7_1 - 1))).f0) > ((rd_T109 l0 x7_1).f0) then (some false) else (if ((rd_T109 l0 (wrap64 (x7_1 - 1))).f0) = ((rd_T109 l0 x7_1).f0) then (if ((rd_T109 l0 (wrap64 (x7_1 - 1))).f1) > ((rd_T109 l0 x7_1).f1) then (some false) else (impl_IsPerformance.l0 k1 l0 l0 (l0.length : Int) (wrap64 (x7_1 + 1)))) else (impl_IsPerformance.l0 k1 l0 l0 (l0.length : Int) (wrap64 (x7_1 + 1))))) else (none)) else (none)) else (impl_IsPerformance.l0 k1 l0 l0 (l0.length : Int) (wrap64 (x7_1 + 1)))) else (some false))) else (some false)) = some r := H
            have A5 := Aside0.mk A50
            clear A50
            by_cases c6 : t216 = true
            · subst c6
              have H1 : ((impl_InRange.f ((rd_T109 l0 x7_1).f1) 0 127).bind fun t217 => (if t217 = true then (if x7_1 > 0 then (if 0 ≤ (wrap64 (x7_1 - 1)) then (if (wrap64 (x7_1 - 1)) < (l0.length : Int) then (if ((rd_T109 l0 (wrap64 (x7_1 - 1))).f0) > ((rd_T109 l0 x7_1).f0) then (some false) else (if ((rd_T109 l0 (wrap64 (x7_1 - 1))).f0) = ((rd_T109 l0 x7_1).f0) then (if ((rd_T109 l0 (wrap64 (x7_1 - 1))).f1) > ((rd_T109 l0 x7_1).f1) then (some false) else (impl_IsPerformance.l0 k1 l0 l0 (l0.length : Int) (wrap64 (x7_1 + 1)))) else (impl_IsPerformance.l0 k1 l0 l0 (l0.length : Int) (wrap64 (x7_1 + 1))))) else (none)) else (none)) else (impl_IsPerformance.l0 k1 l0 l0 (l0.length : Int) (wrap64 (x7_1 + 1)))) else (some false))) = some r := by rw [if_pos rfl] at H; exact H
              clear H
              have H := H1
              clear H1
              replace H := Option.bind_eq_some_iff.mp H
              obtain ⟨t217, A70, H⟩ := H
              replace H : (if t217 = true then (if x7_1 > 0 then (if 0 ≤ (wrap64 (x7_1 - 1)) then (if (wrap64 (x7_1 - 1)) < (l0.length : Int) then (if ((rd_T109 l0 (wrap64 (x7_1 - 1))).f0) > ((rd_T109 l0 x7_1).f0) then (some false) else (if ((rd_T109 l0 (wrap64 (x7_1 - 1))).f0) = ((rd_T109 l0 x7_1).f0) then (if ((rd_T109 l0 (wrap64 (x7_1 - 1))).f1) > ((rd_T109 l0 x7_1).f1) then (some false) else (impl_IsPerformance.l0 k1 l0 l0 (l0.length : Int) (wrap64 (x7_1 + 1)))) else (impl_IsPerformance.l0 k1 l0 l0 (l0.length : Int) (wrap64 (x7_1 + 1))))) else (none)) else (none)) else (impl_IsPerformance.l0 k1 l0 l0 (l0.length : Int) (wrap64 (x7_1 + 1)))) else (some false)) = some r := H
              have A7 := Aside0.mk A70
              clear A70
              by_cases c8 : t217 = true
              · subst c8
                have H1 : (if x7_1 > 0 then (if 0 ≤ (wrap64 (x7_1 - 1)) then (if (wrap64 (x7_1 - 1)) < (l0.length : Int) then (if ((rd_T109 l0 (wrap64 (x7_1 - 1))).f0) > ((rd_T109 l0 x7_1).f0) then (some false) else (if ((rd_T109 l0 (wrap64 (x7_1 - 1))).f0) = ((rd_T109 l0 x7_1).f0) then (if ((rd_T109 l0 (wrap64 (x7_1 - 1))).f1) > ((rd_T109 l0 x7_1).f1) then (some false) else (impl_IsPerformance.l0 k1 l0 l0 (l0.length : Int) (wrap64 (x7_1 + 1)))) else (impl_IsPerformance.l0 k1 l0 l0 (l0.length : Int) (wrap64 (x7_1 + 1))))) else (none)) else (none)) else (impl_IsPerformance.l0 k1 l0 l0 (l0.length : Int) (wrap64 (x7_1 + 1)))) = some r := by rw [if_pos rfl] at H; exact H
                clear H
                have H := H1
                clear H1
                by_cases c9 : x7_1 > 0
                · rw [if_pos c9] at H
                  have c9b0 : decide (0 < x7_1) = true := decide_eq_true c9
                  clear c9
                  obtain ⟨ji10, hji10⟩ : ∃ j_ : Int, (wrap64 (x7_1 - 1)) = j_ := ⟨_, rfl⟩
                  replace H : (if 0 ≤ (ji10) then (if (ji10) < (l0.length : Int) then (if ((rd_T109 l0 (ji10)).f0) > ((rd_T109 l0 x7_1).f0) then (some false) else (if ((rd_T109 l0 (ji10)).f0) = ((rd_T109 l0 x7_1).f0) then (if ((rd_T109 l0 (ji10)).f1) > ((rd_T109 l0 x7_1).f1) then (some false) else (impl_IsPerformance.l0 k1 l0 l0 (l0.length : Int) (wrap64 (x7_1 + 1)))) else (impl_IsPerformance.l0 k1 l0 l0 (l0.length : Int) (wrap64 (x7_1 + 1))))) else (none)) else (none)) = some r := by first | (rw [hji10] at H; exact H) | (simp only [hji10] at H ⊢; exact H)
                  (try rw [hji10] at A5)
                  (try rw [hji10] at A7)
                  have hji10w : (IntKind.i64.wrap (x7_1 - 1)) = ji10 := (i64_w _).trans hji10
                  by_cases c11 : 0 ≤ (ji10)
                  · rw [if_pos c11] at H
                    have c11b0 : decide (0 ≤ (ji10)) = true := decide_eq_true c11
                    clear c11
                    by_cases c12 : (ji10) < (l0.length : Int)
                    · rw [if_pos c12] at H
                      have c12b0 : decide ((ji10) < (l0.length : Int)) = true := decide_eq_true c12
                      clear c12
                      by_cases c13 : ((rd_T109 l0 (ji10)).f0) > ((rd_T109 l0 x7_1).f0)
                      · rw [if_pos c13] at H
                        have c13b0 : decide (((rd_T109 l0 x7_1).f0) < ((rd_T109 l0 (ji10)).f0)) = true := decide_eq_true c13
                        clear c13
                        obtain rfl := Option.some.inj H
                        have p214 : 0 ≤ (x7_1 : Int) := of_decide_eq_true (by first | (with_reducible assumption) | assumption)
                        have q214 : x7_1 < (l0.length : Int) := of_decide_eq_true (by first | (with_reducible assumption) | assumption)
                        obtain ⟨ad214, e214, hx214_0, hx214_1⟩ := at_T109 HR0.out x7_1 p214 q214
                        cases e214
                        replace hx214_0 := (HB.out.cell (World.block_lt_of_cell? w _ hx214_0)).trans hx214_0
                        replace hx214_1 := (HB.out.cell (World.block_lt_of_cell? w _ hx214_1)).trans hx214_1
                        replace p214 := eq_true p214
                        replace q214 := eq_true q214
                        try go_wp2_with (first | ((with_reducible refine gate_dst (N := 4) rfl ?_); refine box_event ?hg (N := 4) ?hd (cs := #[.int .i64 0, .int .i64 0]) (t := 109) ?hr ?_; (case hd => rfl); (case hg => rfl); (case hr => first | (go_simp; done) | (go_simp; rfl)); intro gb215 hg w14 hbox hb; have n0_ := Aside0.mk (below_step (by repeat (first | (with_reducible first | exact HB.out | apply below_alloc | apply pw_below_drewN | apply below_drew1) | exact HB.out)) hb); have n1_ := Aside0.mk (hbox); have n2_ := Aside0.mk ((by rw [hg]; exact (below_size (by repeat (first | (with_reducible first | exact HB.out | apply below_alloc | apply pw_below_drewN | apply below_drew1) | exact HB.out))) : w.heap.size ≤ gb215)); have n3_ := Aside0.mk ((by rw [hg]; exact (below_size (by repeat (first | (with_reducible first | exact HB.out | apply below_alloc | apply pw_below_drewN | apply below_drew1) | exact HB.out))) : w.heap.size ≤ gb215)); clear HB; have HB := n0_; have BK215 := n1_; have GW215 := n2_; have GE215 := n3_; clear n0_ n1_ n2_ n3_; clear hb hbox hg; have hcz15_0 : w14.cell? ⟨gb215, 0, none⟩ = some (.int .i64 0) := (blk_cell BK215.out 0).trans rfl; have hcz15_1 : w14.cell? ⟨gb215, 1, none⟩ = some (.int .i64 0) := (blk_cell BK215.out 1).trans rfl; have hfz15_0 := blk_frozen BK215.out 0; have hfz15_1 := blk_frozen BK215.out 1))
                        have n0_ : Aside0 (((w14.setCell ⟨gb215, 0, none⟩ (.int .i64 ((rd_T109 l0 x7_1).f0))).setCell ⟨gb215, 1, none⟩ (.int .i64 ((rd_T109 l0 x7_1).f1))).heap[gb215]? = some (.cells #[.int .i64 ((rd_T109 l0 x7_1).f0), .int .i64 ((rd_T109 l0 x7_1).f1)] 109 (0, 0))) := ⟨by (with_reducible repeat (first | refine blk_drewN ?_ _ | refine blk_drew ?_ | refine blk_alloc ?_ _)); refine blk_put (cs := #[.int .i64 ((rd_T109 l0 x7_1).f0), .int .i64 0]) ?_ 1 _ rfl; (with_reducible repeat (first | refine blk_drewN ?_ _ | refine blk_drew ?_ | refine blk_alloc ?_ _)); refine blk_put (cs := #[.int .i64 0, .int .i64 0]) ?_ 0 _ rfl; (with_reducible repeat (first | refine blk_drewN ?_ _ | refine blk_drew ?_ | refine blk_alloc ?_ _)); exact BK215.out⟩
                        have n1_ : Aside0 (Below w.heap.size w ((w14.setCell ⟨gb215, 0, none⟩ (.int .i64 ((rd_T109 l0 x7_1).f0))).setCell ⟨gb215, 1, none⟩ (.int .i64 ((rd_T109 l0 x7_1).f1)))) := ⟨by repeat (first | (with_reducible first | exact HB.out | apply below_alloc | apply pw_below_drewN | apply below_drew1 | refine below_set ?_ GE215.out) | exact HB.out)⟩
                        (try clear BK215)
                        (try clear HB)
                        generalize ((w14.setCell ⟨gb215, 0, none⟩ (.int .i64 ((rd_T109 l0 x7_1).f0))).setCell ⟨gb215, 1, none⟩ (.int .i64 ((rd_T109 l0 x7_1).f1))) = w16 at n0_ n1_ ⊢
                        have BK215 := n0_
                        have HB := n1_
                        clear n0_ n1_
                        have n0_ := Aside0.mk (blk_drew BK215.out)
                        have n1_ := Aside0.mk (below_drew1 HB.out)
                        clear BK215
                        clear HB
                        have BK215 := n0_
                        have HB := n1_
                        clear n0_ n1_
                        have p218 : 0 ≤ ((ji10) : Int) := of_decide_eq_true (by first | (with_reducible assumption) | assumption)
                        have q218 : (ji10) < (l0.length : Int) := of_decide_eq_true (by first | (with_reducible assumption) | assumption)
                        obtain ⟨ad218, e218, hx218_0, hx218_1⟩ := at_T109 HR0.out (ji10) p218 q218
                        have hw218_1 := hx218_1
                        have hw218_0 := hx218_0
                        obtain rfl : ad214 = ad218 := (by injection e218)
                        replace hx218_0 := (HB.out.cell (World.block_lt_of_cell? w _ hx218_0)).trans hx218_0
                        replace hx218_1 := (HB.out.cell (World.block_lt_of_cell? w _ hx218_1)).trans hx218_1
                        replace p218 := eq_true p218
                        replace q218 := eq_true q218
                        have hq0_ : w16.cell? ⟨gb215, 0, none⟩ = some (.int .i64 ((rd_T109 l0 x7_1).f0)) := (blk_cell BK215.out 0).trans rfl
                        have hq1_ : w16.cell? ⟨gb215, 1, none⟩ = some (.int .i64 ((rd_T109 l0 x7_1).f1)) := (blk_cell BK215.out 1).trans rfl
                        have hq2_ : w16.cell? (ad214.add (((ji10)).toNat * 2)) = some (.int .i64 ((rd_T109 l0 (ji10)).f0)) := ((HB.out.cell (World.block_lt_of_cell? w _ hw218_0)).trans hw218_0)
                        have hq3_ : w16.cell? ⟨(ad214.add (((ji10)).toNat * 2)).block, (ad214.add (((ji10)).toNat * 2)).off + 1, none⟩ = some (.int .i64 ((rd_T109 l0 (ji10)).f1)) := ((HB.out.cell (World.block_lt_of_cell? w _ hw218_1)).trans hw218_1)
                        go_quiet ((first | (go_at_call 82; apply Calls.quiet_of; ((with_reducible refine (impl_InRange.calls ((rd_T109 l0 x7_1).f0) 0 10000000 true _ A5.out).mono ?_); exact fun _ _ h_ => ⟨h_.1, h_.2.out⟩)) | (go_at_call 82; apply Calls.quiet_of; ((with_reducible refine (impl_InRange.calls ((rd_T109 l0 x7_1).f1) 0 127 true _ A7.out).mono ?_); exact fun _ _ h_ => ⟨h_.1, h_.2.out⟩))))
                        have nBK215_ := Aside0.mk (blk_drewN (w := w16) BK215.out nq)
                        have nHB_ := Aside0.mk (pw_below_drewN (W := w16) ⟨HB.out.os, HB.out.tape, HB.out.output, HB.out.size, HB.out.block⟩ nq)
                        have nhx218_0_ : (w16.drewN nq).cell? _ = _ := hx218_0
                        have nhx218_1_ : (w16.drewN nq).cell? _ = _ := hx218_1
                        clear BK215 HB hx218_0 hx218_1 hq0_ hq1_ hq2_ hq3_
                        have BK215 := nBK215_
                        have HB := nHB_
                        have hx218_0 := nhx218_0_
                        have hx218_1 := nhx218_1_
                        clear nBK215_ nHB_ nhx218_0_ nhx218_1_
                        generalize w16.drewN nq = w17 at BK215 HB hx218_0 hx218_1 ⊢
                        try go_wp2
                        go_ret
                        exact ⟨by first | rfl | (simp [errW_none, errW_some] <;> rfl) | (simp only [← hji10]; first | rfl | (simp [errW_none, errW_some] <;> rfl)) | (simp [*, errW_none, errW_some] <;> rfl), by repeat (first | (with_reducible first | exact HB.out | apply below_alloc | apply pw_below_drewN | apply below_drew1 | refine below_set ?_ GE215.out) | exact HB.out)⟩
                      · rw [if_neg c13] at H
                        have c13b0 : decide (((rd_T109 l0 x7_1).f0) < ((rd_T109 l0 (ji10)).f0)) = false := decide_eq_false c13
                        clear c13
                        by_cases c18 : ((rd_T109 l0 (ji10)).f0) = ((rd_T109 l0 x7_1).f0)
                        · rw [if_pos c18] at H
                          have c18b0 : (((rd_T109 l0 (ji10)).f0) == ((rd_T109 l0 x7_1).f0)) = true := beq_iff_eq.mpr c18
                          have c18b1 : (((rd_T109 l0 (ji10)).f0) != ((rd_T109 l0 x7_1).f0)) = false := bne_eq_false_iff_eq.mpr c18
                          clear c18
                          by_cases c19 : ((rd_T109 l0 (ji10)).f1) > ((rd_T109 l0 x7_1).f1)
                          · rw [if_pos c19] at H
                            have c19b0 : decide (((rd_T109 l0 x7_1).f1) < ((rd_T109 l0 (ji10)).f1)) = true := decide_eq_true c19
                            clear c19
                            obtain rfl := Option.some.inj H
                            have p214 : 0 ≤ (x7_1 : Int) := of_decide_eq_true (by first | (with_reducible assumption) | assumption)
                            have q214 : x7_1 < (l0.length : Int) := of_decide_eq_true (by first | (with_reducible assumption) | assumption)
                            obtain ⟨ad214, e214, hx214_0, hx214_1⟩ := at_T109 HR0.out x7_1 p214 q214
                            cases e214
                            replace hx214_0 := (HB.out.cell (World.block_lt_of_cell? w _ hx214_0)).trans hx214_0
                            replace hx214_1 := (HB.out.cell (World.block_lt_of_cell? w _ hx214_1)).trans hx214_1
                            replace p214 := eq_true p214
                            replace q214 := eq_true q214
                            try go_wp2_with (first | ((with_reducible refine gate_dst (N := 4) rfl ?_); refine box_event ?hg (N := 4) ?hd (cs := #[.int .i64 0, .int .i64 0]) (t := 109) ?hr ?_; (case hd => rfl); (case hg => rfl); (case hr => first | (go_simp; done) | (go_simp; rfl)); intro gb215 hg w20 hbox hb; have n0_ := Aside0.mk (below_step (by repeat (first | (with_reducible first | exact HB.out | apply below_alloc | apply pw_below_drewN | apply below_drew1) | exact HB.out)) hb); have n1_ := Aside0.mk (hbox); have n2_ := Aside0.mk ((by rw [hg]; exact (below_size (by repeat (first | (with_reducible first | exact HB.out | apply below_alloc | apply pw_below_drewN | apply below_drew1) | exact HB.out))) : w.heap.size ≤ gb215)); have n3_ := Aside0.mk ((by rw [hg]; exact (below_size (by repeat (first | (with_reducible first | exact HB.out | apply below_alloc | apply pw_below_drewN | apply below_drew1) | exact HB.out))) : w.heap.size ≤ gb215)); clear HB; have HB := n0_; have BK215 := n1_; have GW215 := n2_; have GE215 := n3_; clear n0_ n1_ n2_ n3_; clear hb hbox hg; have hcz21_0 : w20.cell? ⟨gb215, 0, none⟩ = some (.int .i64 0) := (blk_cell BK215.out 0).trans rfl; have hcz21_1 : w20.cell? ⟨gb215, 1, none⟩ = some (.int .i64 0) := (blk_cell BK215.out 1).trans rfl; have hfz21_0 := blk_frozen BK215.out 0; have hfz21_1 := blk_frozen BK215.out 1))
                            have n0_ : Aside0 (((w20.setCell ⟨gb215, 0, none⟩ (.int .i64 ((rd_T109 l0 x7_1).f0))).setCell ⟨gb215, 1, none⟩ (.int .i64 ((rd_T109 l0 x7_1).f1))).heap[gb215]? = some (.cells #[.int .i64 ((rd_T109 l0 x7_1).f0), .int .i64 ((rd_T109 l0 x7_1).f1)] 109 (0, 0))) := ⟨by (with_reducible repeat (first | refine blk_drewN ?_ _ | refine blk_drew ?_ | refine blk_alloc ?_ _)); refine blk_put (cs := #[.int .i64 ((rd_T109 l0 x7_1).f0), .int .i64 0]) ?_ 1 _ rfl; (with_reducible repeat (first | refine blk_drewN ?_ _ | refine blk_drew ?_ | refine blk_alloc ?_ _)); refine blk_put (cs := #[.int .i64 0, .int .i64 0]) ?_ 0 _ rfl; (with_reducible repeat (first | refine blk_drewN ?_ _ | refine blk_drew ?_ | refine blk_alloc ?_ _)); exact BK215.out⟩
                            have n1_ : Aside0 (Below w.heap.size w ((w20.setCell ⟨gb215, 0, none⟩ (.int .i64 ((rd_T109 l0 x7_1).f0))).setCell ⟨gb215, 1, none⟩ (.int .i64 ((rd_T109 l0 x7_1).f1)))) := ⟨by repeat (first | (with_reducible first | exact HB.out | apply below_alloc | apply pw_below_drewN | apply below_drew1 | refine below_set ?_ GE215.out) | exact HB.out)⟩
                            (try clear BK215)
                            (try clear HB)
                            generalize ((w20.setCell ⟨gb215, 0, none⟩ (.int .i64 ((rd_T109 l0 x7_1).f0))).setCell ⟨gb215, 1, none⟩ (.int .i64 ((rd_T109 l0 x7_1).f1))) = w22 at n0_ n1_ ⊢
                            have BK215 := n0_
                            have HB := n1_
                            clear n0_ n1_
                            have n0_ := Aside0.mk (blk_drew BK215.out)
                            have n1_ := Aside0.mk (below_drew1 HB.out)
                            clear BK215
                            clear HB
                            have BK215 := n0_
                            have HB := n1_
                            clear n0_ n1_
                            have p218 : 0 ≤ ((ji10) : Int) := of_decide_eq_true (by first | (with_reducible assumption) | assumption)
                            have q218 : (ji10) < (l0.length : Int) := of_decide_eq_true (by first | (with_reducible assumption) | assumption)
                            obtain ⟨ad218, e218, hx218_0, hx218_1⟩ := at_T109 HR0.out (ji10) p218 q218
                            have hw218_1 := hx218_1
                            have hw218_0 := hx218_0
                            obtain rfl : ad214 = ad218 := (by injection e218)
                            replace hx218_0 := (HB.out.cell (World.block_lt_of_cell? w _ hx218_0)).trans hx218_0
                            replace hx218_1 := (HB.out.cell (World.block_lt_of_cell? w _ hx218_1)).trans hx218_1
                            replace p218 := eq_true p218
                            replace q218 := eq_true q218
                            have p219 : 0 ≤ ((ji10) : Int) := of_decide_eq_true (by first | (with_reducible assumption) | assumption)
                            have q219 : (ji10) < (l0.length : Int) := of_decide_eq_true (by first | (with_reducible assumption) | assumption)
                            obtain ⟨ad219, e219, hx219_0, hx219_1⟩ := at_T109 HR0.out (ji10) p219 q219
                            have hw219_1 := hx219_1
                            have hw219_0 := hx219_0
                            obtain rfl : ad214 = ad219 := (by injection e219)
                            replace hx219_0 := (HB.out.cell (World.block_lt_of_cell? w _ hx219_0)).trans hx219_0
                            replace hx219_1 := (HB.out.cell (World.block_lt_of_cell? w _ hx219_1)).trans hx219_1
                            replace p219 := eq_true p219
                            replace q219 := eq_true q219
                            have p220 : 0 ≤ ((ji10) : Int) := of_decide_eq_true (by first | (with_reducible assumption) | assumption)
                            have q220 : (ji10) < (l0.length : Int) := of_decide_eq_true (by first | (with_reducible assumption) | assumption)
                            obtain ⟨ad220, e220, hx220_0, hx220_1⟩ := at_T109 HR0.out (ji10) p220 q220
                            have hw220_1 := hx220_1
                            have hw220_0 := hx220_0
                            obtain rfl : ad214 = ad220 := (by injection e220)
                            replace hx220_0 := (HB.out.cell (World.block_lt_of_cell? w _ hx220_0)).trans hx220_0
                            replace hx220_1 := (HB.out.cell (World.block_lt_of_cell? w _ hx220_1)).trans hx220_1
                            replace p220 := eq_true p220
                            replace q220 := eq_true q220
                            have hq0_ : w22.cell? ⟨gb215, 0, none⟩ = some (.int .i64 ((rd_T109 l0 x7_1).f0)) := (blk_cell BK215.out 0).trans rfl
                            have hq1_ : w22.cell? ⟨gb215, 1, none⟩ = some (.int .i64 ((rd_T109 l0 x7_1).f1)) := (blk_cell BK215.out 1).trans rfl
                            have hq2_ : w22.cell? (ad214.add (((ji10)).toNat * 2)) = some (.int .i64 ((rd_T109 l0 (ji10)).f0)) := ((HB.out.cell (World.block_lt_of_cell? w _ hw218_0)).trans hw218_0)
                            have hq3_ : w22.cell? ⟨(ad214.add (((ji10)).toNat * 2)).block, (ad214.add (((ji10)).toNat * 2)).off + 1, none⟩ = some (.int .i64 ((rd_T109 l0 (ji10)).f1)) := ((HB.out.cell (World.block_lt_of_cell? w _ hw218_1)).trans hw218_1)
                            have hq4_ : w22.cell? (ad214.add (((ji10)).toNat * 2)) = some (.int .i64 ((rd_T109 l0 (ji10)).f0)) := ((HB.out.cell (World.block_lt_of_cell? w _ hw219_0)).trans hw219_0)
                            have hq5_ : w22.cell? ⟨(ad214.add (((ji10)).toNat * 2)).block, (ad214.add (((ji10)).toNat * 2)).off + 1, none⟩ = some (.int .i64 ((rd_T109 l0 (ji10)).f1)) := ((HB.out.cell (World.block_lt_of_cell? w _ hw219_1)).trans hw219_1)
                            have hq6_ : w22.cell? (ad214.add (((ji10)).toNat * 2)) = some (.int .i64 ((rd_T109 l0 (ji10)).f0)) := ((HB.out.cell (World.block_lt_of_cell? w _ hw220_0)).trans hw220_0)
                            have hq7_ : w22.cell? ⟨(ad214.add (((ji10)).toNat * 2)).block, (ad214.add (((ji10)).toNat * 2)).off + 1, none⟩ = some (.int .i64 ((rd_T109 l0 (ji10)).f1)) := ((HB.out.cell (World.block_lt_of_cell? w _ hw220_1)).trans hw220_1)
                            go_quiet ((first | (go_at_call 82; apply Calls.quiet_of; ((with_reducible refine (impl_InRange.calls ((rd_T109 l0 x7_1).f0) 0 10000000 true _ A5.out).mono ?_); exact fun _ _ h_ => ⟨h_.1, h_.2.out⟩)) | (go_at_call 82; apply Calls.quiet_of; ((with_reducible refine (impl_InRange.calls ((rd_T109 l0 x7_1).f1) 0 127 true _ A7.out).mono ?_); exact fun _ _ h_ => ⟨h_.1, h_.2.out⟩))))
                            have nBK215_ := Aside0.mk (blk_drewN (w := w22) BK215.out nq)
                            have nHB_ := Aside0.mk (pw_below_drewN (W := w22) ⟨HB.out.os, HB.out.tape, HB.out.output, HB.out.size, HB.out.block⟩ nq)
                            have nhx218_0_ : (w22.drewN nq).cell? _ = _ := hx218_0
                            have nhx218_1_ : (w22.drewN nq).cell? _ = _ := hx218_1
                            have nhx219_0_ : (w22.drewN nq).cell? _ = _ := hx219_0
                            have nhx219_1_ : (w22.drewN nq).cell? _ = _ := hx219_1
                            have nhx220_0_ : (w22.drewN nq).cell? _ = _ := hx220_0
                            have nhx220_1_ : (w22.drewN nq).cell? _ = _ := hx220_1
                            clear BK215 HB hx218_0 hx218_1 hx219_0 hx219_1 hx220_0 hx220_1 hq0_ hq1_ hq2_ hq3_ hq4_ hq5_ hq6_ hq7_
                            have BK215 := nBK215_
                            have HB := nHB_
                            have hx218_0 := nhx218_0_
                            have hx218_1 := nhx218_1_
                            have hx219_0 := nhx219_0_
                            have hx219_1 := nhx219_1_
                            have hx220_0 := nhx220_0_
                            have hx220_1 := nhx220_1_
                            clear nBK215_ nHB_ nhx218_0_ nhx218_1_ nhx219_0_ nhx219_1_ nhx220_0_ nhx220_1_
                            generalize w22.drewN nq = w23 at BK215 HB hx218_0 hx218_1 hx219_0 hx219_1 hx220_0 hx220_1 ⊢
                            try go_wp2
                            go_ret
                            exact ⟨by first | rfl | (simp [errW_none, errW_some] <;> rfl) | (simp only [← hji10]; first | rfl | (simp [errW_none, errW_some] <;> rfl)) | (simp [*, errW_none, errW_some] <;> rfl), by repeat (first | (with_reducible first | exact HB.out | apply below_alloc | apply pw_below_drewN | apply below_drew1 | refine below_set ?_ GE215.out) | exact HB.out)⟩
                          · rw [if_neg c19] at H
                            have c19b0 : decide (((rd_T109 l0 x7_1).f1) < ((rd_T109 l0 (ji10)).f1)) = false := decide_eq_false c19
                            clear c19
                            have H' := Aside0.mk H
                            clear H
                            have p214 : 0 ≤ (x7_1 : Int) := of_decide_eq_true (by first | (with_reducible assumption) | assumption)
                            have q214 : x7_1 < (l0.length : Int) := of_decide_eq_true (by first | (with_reducible assumption) | assumption)
                            obtain ⟨ad214, e214, hx214_0, hx214_1⟩ := at_T109 HR0.out x7_1 p214 q214
                            cases e214
                            replace hx214_0 := (HB.out.cell (World.block_lt_of_cell? w _ hx214_0)).trans hx214_0
                            replace hx214_1 := (HB.out.cell (World.block_lt_of_cell? w _ hx214_1)).trans hx214_1
                            replace p214 := eq_true p214
                            replace q214 := eq_true q214
                            try go_wp2_with (first | ((with_reducible refine gate_dst (N := 4) rfl ?_); refine box_event ?hg (N := 4) ?hd (cs := #[.int .i64 0, .int .i64 0]) (t := 109) ?hr ?_; (case hd => rfl); (case hg => rfl); (case hr => first | (go_simp; done) | (go_simp; rfl)); intro gb215 hg w24 hbox hb; have n0_ := Aside0.mk (below_step (by repeat (first | (with_reducible first | exact HB.out | apply below_alloc | apply pw_below_drewN | apply below_drew1) | exact HB.out)) hb); have n1_ := Aside0.mk (hbox); have n2_ := Aside0.mk ((by rw [hg]; exact (below_size (by repeat (first | (with_reducible first | exact HB.out | apply below_alloc | apply pw_below_drewN | apply below_drew1) | exact HB.out))) : w.heap.size ≤ gb215)); have n3_ := Aside0.mk ((by rw [hg]; exact (below_size (by repeat (first | (with_reducible first | exact HB.out | apply below_alloc | apply pw_below_drewN | apply below_drew1) | exact HB.out))) : w.heap.size ≤ gb215)); clear HB; have HB := n0_; have BK215 := n1_; have GW215 := n2_; have GE215 := n3_; clear n0_ n1_ n2_ n3_; clear hb hbox hg; have hcz25_0 : w24.cell? ⟨gb215, 0, none⟩ = some (.int .i64 0) := (blk_cell BK215.out 0).trans rfl; have hcz25_1 : w24.cell? ⟨gb215, 1, none⟩ = some (.int .i64 0) := (blk_cell BK215.out 1).trans rfl; have hfz25_0 := blk_frozen BK215.out 0; have hfz25_1 := blk_frozen BK215.out 1))
                            have n0_ : Aside0 (((w24.setCell ⟨gb215, 0, none⟩ (.int .i64 ((rd_T109 l0 x7_1).f0))).setCell ⟨gb215, 1, none⟩ (.int .i64 ((rd_T109 l0 x7_1).f1))).heap[gb215]? = some (.cells #[.int .i64 ((rd_T109 l0 x7_1).f0), .int .i64 ((rd_T109 l0 x7_1).f1)] 109 (0, 0))) := ⟨by (with_reducible repeat (first | refine blk_drewN ?_ _ | refine blk_drew ?_ | refine blk_alloc ?_ _)); refine blk_put (cs := #[.int .i64 ((rd_T109 l0 x7_1).f0), .int .i64 0]) ?_ 1 _ rfl; (with_reducible repeat (first | refine blk_drewN ?_ _ | refine blk_drew ?_ | refine blk_alloc ?_ _)); refine blk_put (cs := #[.int .i64 0, .int .i64 0]) ?_ 0 _ rfl; (with_reducible repeat (first | refine blk_drewN ?_ _ | refine blk_drew ?_ | refine blk_alloc ?_ _)); exact BK215.out⟩
                            have n1_ : Aside0 (Below w.heap.size w ((w24.setCell ⟨gb215, 0, none⟩ (.int .i64 ((rd_T109 l0 x7_1).f0))).setCell ⟨gb215, 1, none⟩ (.int .i64 ((rd_T109 l0 x7_1).f1)))) := ⟨by repeat (first | (with_reducible first | exact HB.out | apply below_alloc | apply pw_below_drewN | apply below_drew1 | refine below_set ?_ GE215.out) | exact HB.out)⟩
                            (try clear BK215)
                            (try clear HB)
                            generalize ((w24.setCell ⟨gb215, 0, none⟩ (.int .i64 ((rd_T109 l0 x7_1).f0))).setCell ⟨gb215, 1, none⟩ (.int .i64 ((rd_T109 l0 x7_1).f1))) = w26 at n0_ n1_ ⊢
                            have BK215 := n0_
                            have HB := n1_
                            clear n0_ n1_
                            have n0_ := Aside0.mk (blk_drew BK215.out)
                            have n1_ := Aside0.mk (below_drew1 HB.out)
                            clear BK215
                            clear HB
                            have BK215 := n0_
                            have HB := n1_
                            clear n0_ n1_
                            have p218 : 0 ≤ ((ji10) : Int) := of_decide_eq_true (by first | (with_reducible assumption) | assumption)
                            have q218 : (ji10) < (l0.length : Int) := of_decide_eq_true (by first | (with_reducible assumption) | assumption)
                            obtain ⟨ad218, e218, hx218_0, hx218_1⟩ := at_T109 HR0.out (ji10) p218 q218
                            have hw218_1 := hx218_1
                            have hw218_0 := hx218_0
                            obtain rfl : ad214 = ad218 := (by injection e218)
                            replace hx218_0 := (HB.out.cell (World.block_lt_of_cell? w _ hx218_0)).trans hx218_0
                            replace hx218_1 := (HB.out.cell (World.block_lt_of_cell? w _ hx218_1)).trans hx218_1
                            replace p218 := eq_true p218
                            replace q218 := eq_true q218
                            have p219 : 0 ≤ ((ji10) : Int) := of_decide_eq_true (by first | (with_reducible assumption) | assumption)
                            have q219 : (ji10) < (l0.length : Int) := of_decide_eq_true (by first | (with_reducible assumption) | assumption)
                            obtain ⟨ad219, e219, hx219_0, hx219_1⟩ := at_T109 HR0.out (ji10) p219 q219
                            have hw219_1 := hx219_1
                            have hw219_0 := hx219_0
                            obtain rfl : ad214 = ad219 := (by injection e219)
                            replace hx219_0 := (HB.out.cell (World.block_lt_of_cell? w _ hx219_0)).trans hx219_0
                            replace hx219_1 := (HB.out.cell (World.block_lt_of_cell? w _ hx219_1)).trans hx219_1
                            replace p219 := eq_true p219
                            replace q219 := eq_true q219
                            have p220 : 0 ≤ ((ji10) : Int) := of_decide_eq_true (by first | (with_reducible assumption) | assumption)
                            have q220 : (ji10) < (l0.length : Int) := of_decide_eq_true (by first | (with_reducible assumption) | assumption)
                            obtain ⟨ad220, e220, hx220_0, hx220_1⟩ := at_T109 HR0.out (ji10) p220 q220
                            have hw220_1 := hx220_1
                            have hw220_0 := hx220_0
                            obtain rfl : ad214 = ad220 := (by injection e220)
                            replace hx220_0 := (HB.out.cell (World.block_lt_of_cell? w _ hx220_0)).trans hx220_0
                            replace hx220_1 := (HB.out.cell (World.block_lt_of_cell? w _ hx220_1)).trans hx220_1
                            replace p220 := eq_true p220
                            replace q220 := eq_true q220
                            have hq0_ : w26.cell? ⟨gb215, 0, none⟩ = some (.int .i64 ((rd_T109 l0 x7_1).f0)) := (blk_cell BK215.out 0).trans rfl
                            have hq1_ : w26.cell? ⟨gb215, 1, none⟩ = some (.int .i64 ((rd_T109 l0 x7_1).f1)) := (blk_cell BK215.out 1).trans rfl
                            have hq2_ : w26.cell? (ad214.add (((ji10)).toNat * 2)) = some (.int .i64 ((rd_T109 l0 (ji10)).f0)) := ((HB.out.cell (World.block_lt_of_cell? w _ hw218_0)).trans hw218_0)
                            have hq3_ : w26.cell? ⟨(ad214.add (((ji10)).toNat * 2)).block, (ad214.add (((ji10)).toNat * 2)).off + 1, none⟩ = some (.int .i64 ((rd_T109 l0 (ji10)).f1)) := ((HB.out.cell (World.block_lt_of_cell? w _ hw218_1)).trans hw218_1)
                            have hq4_ : w26.cell? (ad214.add (((ji10)).toNat * 2)) = some (.int .i64 ((rd_T109 l0 (ji10)).f0)) := ((HB.out.cell (World.block_lt_of_cell? w _ hw219_0)).trans hw219_0)
                            have hq5_ : w26.cell? ⟨(ad214.add (((ji10)).toNat * 2)).block, (ad214.add (((ji10)).toNat * 2)).off + 1, none⟩ = some (.int .i64 ((rd_T109 l0 (ji10)).f1)) := ((HB.out.cell (World.block_lt_of_cell? w _ hw219_1)).trans hw219_1)
                            have hq6_ : w26.cell? (ad214.add (((ji10)).toNat * 2)) = some (.int .i64 ((rd_T109 l0 (ji10)).f0)) := ((HB.out.cell (World.block_lt_of_cell? w _ hw220_0)).trans hw220_0)
                            have hq7_ : w26.cell? ⟨(ad214.add (((ji10)).toNat * 2)).block, (ad214.add (((ji10)).toNat * 2)).off + 1, none⟩ = some (.int .i64 ((rd_T109 l0 (ji10)).f1)) := ((HB.out.cell (World.block_lt_of_cell? w _ hw220_1)).trans hw220_1)
                            go_quiet ((first | (go_at_call 82; apply Calls.quiet_of; ((with_reducible refine (impl_InRange.calls ((rd_T109 l0 x7_1).f0) 0 10000000 true _ A5.out).mono ?_); exact fun _ _ h_ => ⟨h_.1, h_.2.out⟩)) | (go_at_call 82; apply Calls.quiet_of; ((with_reducible refine (impl_InRange.calls ((rd_T109 l0 x7_1).f1) 0 127 true _ A7.out).mono ?_); exact fun _ _ h_ => ⟨h_.1, h_.2.out⟩))))
                            have nBK215_ := Aside0.mk (blk_drewN (w := w26) BK215.out nq)
                            have nHB_ := Aside0.mk (pw_below_drewN (W := w26) ⟨HB.out.os, HB.out.tape, HB.out.output, HB.out.size, HB.out.block⟩ nq)
                            have nhx218_0_ : (w26.drewN nq).cell? _ = _ := hx218_0
                            have nhx218_1_ : (w26.drewN nq).cell? _ = _ := hx218_1
                            have nhx219_0_ : (w26.drewN nq).cell? _ = _ := hx219_0
                            have nhx219_1_ : (w26.drewN nq).cell? _ = _ := hx219_1
                            have nhx220_0_ : (w26.drewN nq).cell? _ = _ := hx220_0
                            have nhx220_1_ : (w26.drewN nq).cell? _ = _ := hx220_1
                            clear BK215 HB hx218_0 hx218_1 hx219_0 hx219_1 hx220_0 hx220_1 hq0_ hq1_ hq2_ hq3_ hq4_ hq5_ hq6_ hq7_
                            have BK215 := nBK215_
                            have HB := nHB_
                            have hx218_0 := nhx218_0_
                            have hx218_1 := nhx218_1_
                            have hx219_0 := nhx219_0_
                            have hx219_1 := nhx219_1_
                            have hx220_0 := nhx220_0_
                            have hx220_1 := nhx220_1_
                            clear nBK215_ nHB_ nhx218_0_ nhx218_1_ nhx219_0_ nhx219_1_ nhx220_0_ nhx220_1_
                            generalize w26.drewN nq = w27 at BK215 HB hx218_0 hx218_1 hx219_0 hx219_1 hx220_0 hx220_1 ⊢
                            try go_wp2
                            go_roundg k1
                            case measure => have := HK1.out; omega
                            case rel => exact ⟨(wrap64 (x7_1 + 1)), (by first | rfl | (simp; done) | (simp [*]; done)), H', ⟨by have := HK1.out; omega⟩, ⟨by repeat (first | (with_reducible first | exact HB.out | apply below_alloc | apply pw_below_drewN | apply below_drew1 | refine below_set ?_ GE215.out) | exact HB.out)⟩⟩
                        · rw [if_neg c18] at H
                          have c18b0 : (((rd_T109 l0 (ji10)).f0) == ((rd_T109 l0 x7_1).f0)) = false := beq_eq_false_iff_ne.mpr c18
                          have c18b1 : (((rd_T109 l0 (ji10)).f0) != ((rd_T109 l0 x7_1).f0)) = true := bne_iff_ne.mpr c18
                          have H' := Aside0.mk H
                          clear H
                          have p214 : 0 ≤ (x7_1 : Int) := of_decide_eq_true (by first | (with_reducible assumption) | assumption)
                          have q214 : x7_1 < (l0.length : Int) := of_decide_eq_true (by first | (with_reducible assumption) | assumption)
                          obtain ⟨ad214, e214, hx214_0, hx214_1⟩ := at_T109 HR0.out x7_1 p214 q214
                          cases e214
                          replace hx214_0 := (HB.out.cell (World.block_lt_of_cell? w _ hx214_0)).trans hx214_0
                          replace hx214_1 := (HB.out.cell (World.block_lt_of_cell? w _ hx214_1)).trans hx214_1
                          replace p214 := eq_true p214
                          replace q214 := eq_true q214
                          try go_wp2_with (first | ((with_reducible refine gate_dst (N := 4) rfl ?_); refine box_event ?hg (N := 4) ?hd (cs := #[.int .i64 0, .int .i64 0]) (t := 109) ?hr ?_; (case hd => rfl); (case hg => rfl); (case hr => first | (go_simp; done) | (go_simp; rfl)); intro gb215 hg w28 hbox hb; have n0_ := Aside0.mk (below_step (by repeat (first | (with_reducible first | exact HB.out | apply below_alloc | apply pw_below_drewN | apply below_drew1) | exact HB.out)) hb); have n1_ := Aside0.mk (hbox); have n2_ := Aside0.mk ((by rw [hg]; exact (below_size (by repeat (first | (with_reducible first | exact HB.out | apply below_alloc | apply pw_below_drewN | apply below_drew1) | exact HB.out))) : w.heap.size ≤ gb215)); have n3_ := Aside0.mk ((by rw [hg]; exact (below_size (by repeat (first | (with_reducible first | exact HB.out | apply below_alloc | apply pw_below_drewN | apply below_drew1) | exact HB.out))) : w.heap.size ≤ gb215)); clear HB; have HB := n0_; have BK215 := n1_; have GW215 := n2_; have GE215 := n3_; clear n0_ n1_ n2_ n3_; clear hb hbox hg; have hcz29_0 : w28.cell? ⟨gb215, 0, none⟩ = some (.int .i64 0) := (blk_cell BK215.out 0).trans rfl; have hcz29_1 : w28.cell? ⟨gb215, 1, none⟩ = some (.int .i64 0) := (blk_cell BK215.out 1).trans rfl; have hfz29_0 := blk_frozen BK215.out 0; have hfz29_1 := blk_frozen BK215.out 1))
                          have n0_ : Aside0 (((w28.setCell ⟨gb215, 0, none⟩ (.int .i64 ((rd_T109 l0 x7_1).f0))).setCell ⟨gb215, 1, none⟩ (.int .i64 ((rd_T109 l0 x7_1).f1))).heap[gb215]? = some (.cells #[.int .i64 ((rd_T109 l0 x7_1).f0), .int .i64 ((rd_T109 l0 x7_1).f1)] 109 (0, 0))) := ⟨by (with_reducible repeat (first | refine blk_drewN ?_ _ | refine blk_drew ?_ | refine blk_alloc ?_ _)); refine blk_put (cs := #[.int .i64 ((rd_T109 l0 x7_1).f0), .int .i64 0]) ?_ 1 _ rfl; (with_reducible repeat (first | refine blk_drewN ?_ _ | refine blk_drew ?_ | refine blk_alloc ?_ _)); refine blk_put (cs := #[.int .i64 0, .int .i64 0]) ?_ 0 _ rfl; (with_reducible repeat (first | refine blk_drewN ?_ _ | refine blk_drew ?_ | refine blk_alloc ?_ _)); exact BK215.out⟩
                          have n1_ : Aside0 (Below w.heap.size w ((w28.setCell ⟨gb215, 0, none⟩ (.int .i64 ((rd_T109 l0 x7_1).f0))).setCell ⟨gb215, 1, none⟩ (.int .i64 ((rd_T109 l0 x7_1).f1)))) := ⟨by repeat (first | (with_reducible first | exact HB.out | apply below_alloc | apply pw_below_drewN | apply below_drew1 | refine below_set ?_ GE215.out) | exact HB.out)⟩
                          (try clear BK215)
                          (try clear HB)
                          generalize ((w28.setCell ⟨gb215, 0, none⟩ (.int .i64 ((rd_T109 l0 x7_1).f0))).setCell ⟨gb215, 1, none⟩ (.int .i64 ((rd_T109 l0 x7_1).f1))) = w30 at n0_ n1_ ⊢
                          have BK215 := n0_
                          have HB := n1_
                          clear n0_ n1_
                          have n0_ := Aside0.mk (blk_drew BK215.out)
                          have n1_ := Aside0.mk (below_drew1 HB.out)
                          clear BK215
                          clear HB
                          have BK215 := n0_
                          have HB := n1_
                          clear n0_ n1_
                          have p218 : 0 ≤ ((ji10) : Int) := of_decide_eq_true (by first | (with_reducible assumption) | assumption)
                          have q218 : (ji10) < (l0.length : Int) := of_decide_eq_true (by first | (with_reducible assumption) | assumption)
                          obtain ⟨ad218, e218, hx218_0, hx218_1⟩ := at_T109 HR0.out (ji10) p218 q218
                          have hw218_1 := hx218_1
                          have hw218_0 := hx218_0
                          obtain rfl : ad214 = ad218 := (by injection e218)
                          replace hx218_0 := (HB.out.cell (World.block_lt_of_cell? w _ hx218_0)).trans hx218_0
                          replace hx218_1 := (HB.out.cell (World.block_lt_of_cell? w _ hx218_1)).trans hx218_1
                          replace p218 := eq_true p218
                          replace q218 := eq_true q218
                          have p219 : 0 ≤ ((ji10) : Int) := of_decide_eq_true (by first | (with_reducible assumption) | assumption)
                          have q219 : (ji10) < (l0.length : Int) := of_decide_eq_true (by first | (with_reducible assumption) | assumption)
                          obtain ⟨ad219, e219, hx219_0, hx219_1⟩ := at_T109 HR0.out (ji10) p219 q219
                          have hw219_1 := hx219_1
                          have hw219_0 := hx219_0
                          obtain rfl : ad214 = ad219 := (by injection e219)
                          replace hx219_0 := (HB.out.cell (World.block_lt_of_cell? w _ hx219_0)).trans hx219_0
                          replace hx219_1 := (HB.out.cell (World.block_lt_of_cell? w _ hx219_1)).trans hx219_1
                          replace p219 := eq_true p219
                          replace q219 := eq_true q219
                          have hq0_ : w30.cell? ⟨gb215, 0, none⟩ = some (.int .i64 ((rd_T109 l0 x7_1).f0)) := (blk_cell BK215.out 0).trans rfl
                          have hq1_ : w30.cell? ⟨gb215, 1, none⟩ = some (.int .i64 ((rd_T109 l0 x7_1).f1)) := (blk_cell BK215.out 1).trans rfl
                          have hq2_ : w30.cell? (ad214.add (((ji10)).toNat * 2)) = some (.int .i64 ((rd_T109 l0 (ji10)).f0)) := ((HB.out.cell (World.block_lt_of_cell? w _ hw218_0)).trans hw218_0)
                          have hq3_ : w30.cell? ⟨(ad214.add (((ji10)).toNat * 2)).block, (ad214.add (((ji10)).toNat * 2)).off + 1, none⟩ = some (.int .i64 ((rd_T109 l0 (ji10)).f1)) := ((HB.out.cell (World.block_lt_of_cell? w _ hw218_1)).trans hw218_1)
                          have hq4_ : w30.cell? (ad214.add (((ji10)).toNat * 2)) = some (.int .i64 ((rd_T109 l0 (ji10)).f0)) := ((HB.out.cell (World.block_lt_of_cell? w _ hw219_0)).trans hw219_0)
                          have hq5_ : w30.cell? ⟨(ad214.add (((ji10)).toNat * 2)).block, (ad214.add (((ji10)).toNat * 2)).off + 1, none⟩ = some (.int .i64 ((rd_T109 l0 (ji10)).f1)) := ((HB.out.cell (World.block_lt_of_cell? w _ hw219_1)).trans hw219_1)
                          go_quiet ((first | (go_at_call 82; apply Calls.quiet_of; ((with_reducible refine (impl_InRange.calls ((rd_T109 l0 x7_1).f0) 0 10000000 true _ A5.out).mono ?_); exact fun _ _ h_ => ⟨h_.1, h_.2.out⟩)) | (go_at_call 82; apply Calls.quiet_of; ((with_reducible refine (impl_InRange.calls ((rd_T109 l0 x7_1).f1) 0 127 true _ A7.out).mono ?_); exact fun _ _ h_ => ⟨h_.1, h_.2.out⟩))))
                          have nBK215_ := Aside0.mk (blk_drewN (w := w30) BK215.out nq)
                          have nHB_ := Aside0.mk (pw_below_drewN (W := w30) ⟨HB.out.os, HB.out.tape, HB.out.output, HB.out.size, HB.out.block⟩ nq)
                          have nhx218_0_ : (w30.drewN nq).cell? _ = _ := hx218_0
                          have nhx218_1_ : (w30.drewN nq).cell? _ = _ := hx218_1
                          have nhx219_0_ : (w30.drewN nq).cell? _ = _ := hx219_0
                          have nhx219_1_ : (w30.drewN nq).cell? _ = _ := hx219_1
                          clear BK215 HB hx218_0 hx218_1 hx219_0 hx219_1 hq0_ hq1_ hq2_ hq3_ hq4_ hq5_
                          have BK215 := nBK215_
                          have HB := nHB_
                          have hx218_0 := nhx218_0_
                          have hx218_1 := nhx218_1_
                          have hx219_0 := nhx219_0_
                          have hx219_1 := nhx219_1_
                          clear nBK215_ nHB_ nhx218_0_ nhx218_1_ nhx219_0_ nhx219_1_
                          generalize w30.drewN nq = w31 at BK215 HB hx218_0 hx218_1 hx219_0 hx219_1 ⊢
                          try go_wp2
                          go_roundg k1
                          case measure => have := HK1.out; omega
                          case rel => exact ⟨(wrap64 (x7_1 + 1)), (by first | rfl | (simp; done) | (simp [*]; done)), H', ⟨by have := HK1.out; omega⟩, ⟨by repeat (first | (with_reducible first | exact HB.out | apply below_alloc | apply pw_below_drewN | apply below_drew1 | refine below_set ?_ GE215.out) | exact HB.out)⟩⟩
                    · rw [if_neg c12] at H
                      exact absurd H (by simp)
                  · rw [if_neg c11] at H
                    exact absurd H (by simp)
                · rw [if_neg c9] at H
                  have c9b0 : decide (0 < x7_1) = false := decide_eq_false c9
                  clear c9
                  have H' := Aside0.mk H
                  clear H
                  have p214 : 0 ≤ (x7_1 : Int) := of_decide_eq_true (by first | (with_reducible assumption) | assumption)
                  have q214 : x7_1 < (l0.length : Int) := of_decide_eq_true (by first | (with_reducible assumption) | assumption)
                  obtain ⟨ad214, e214, hx214_0, hx214_1⟩ := at_T109 HR0.out x7_1 p214 q214
                  cases e214
                  replace hx214_0 := (HB.out.cell (World.block_lt_of_cell? w _ hx214_0)).trans hx214_0
                  replace hx214_1 := (HB.out.cell (World.block_lt_of_cell? w _ hx214_1)).trans hx214_1
                  replace p214 := eq_true p214
                  replace q214 := eq_true q214
                  try go_wp2_with (first | ((with_reducible refine gate_dst (N := 4) rfl ?_); refine box_event ?hg (N := 4) ?hd (cs := #[.int .i64 0, .int .i64 0]) (t := 109) ?hr ?_; (case hd => rfl); (case hg => rfl); (case hr => first | (go_simp; done) | (go_simp; rfl)); intro gb215 hg w32 hbox hb; have n0_ := Aside0.mk (below_step (by repeat (first | (with_reducible first | exact HB.out | apply below_alloc | apply pw_below_drewN | apply below_drew1) | exact HB.out)) hb); have n1_ := Aside0.mk (hbox); have n2_ := Aside0.mk ((by rw [hg]; exact (below_size (by repeat (first | (with_reducible first | exact HB.out | apply below_alloc | apply pw_below_drewN | apply below_drew1) | exact HB.out))) : w.heap.size ≤ gb215)); have n3_ := Aside0.mk ((by rw [hg]; exact (below_size (by repeat (first | (with_reducible first | exact HB.out | apply below_alloc | apply pw_below_drewN | apply below_drew1) | exact HB.out))) : w.heap.size ≤ gb215)); clear HB; have HB := n0_; have BK215 := n1_; have GW215 := n2_; have GE215 := n3_; clear n0_ n1_ n2_ n3_; clear hb hbox hg; have hcz33_0 : w32.cell? ⟨gb215, 0, none⟩ = some (.int .i64 0) := (blk_cell BK215.out 0).trans rfl; have hcz33_1 : w32.cell? ⟨gb215, 1, none⟩ = some (.int .i64 0) := (blk_cell BK215.out 1).trans rfl; have hfz33_0 := blk_frozen BK215.out 0; have hfz33_1 := blk_frozen BK215.out 1))
                  have n0_ : Aside0 (((w32.setCell ⟨gb215, 0, none⟩ (.int .i64 ((rd_T109 l0 x7_1).f0))).setCell ⟨gb215, 1, none⟩ (.int .i64 ((rd_T109 l0 x7_1).f1))).heap[gb215]? = some (.cells #[.int .i64 ((rd_T109 l0 x7_1).f0), .int .i64 ((rd_T109 l0 x7_1).f1)] 109 (0, 0))) := ⟨by (with_reducible repeat (first | refine blk_drewN ?_ _ | refine blk_drew ?_ | refine blk_alloc ?_ _)); refine blk_put (cs := #[.int .i64 ((rd_T109 l0 x7_1).f0), .int .i64 0]) ?_ 1 _ rfl; (with_reducible repeat (first | refine blk_drewN ?_ _ | refine blk_drew ?_ | refine blk_alloc ?_ _)); refine blk_put (cs := #[.int .i64 0, .int .i64 0]) ?_ 0 _ rfl; (with_reducible repeat (first | refine blk_drewN ?_ _ | refine blk_drew ?_ | refine blk_alloc ?_ _)); exact BK215.out⟩
                  have n1_ : Aside0 (Below w.heap.size w ((w32.setCell ⟨gb215, 0, none⟩ (.int .i64 ((rd_T109 l0 x7_1).f0))).setCell ⟨gb215, 1, none⟩ (.int .i64 ((rd_T109 l0 x7_1).f1)))) := ⟨by repeat (first | (with_reducible first | exact HB.out | apply below_alloc | apply pw_below_drewN | apply below_drew1 | refine below_set ?_ GE215.out) | exact HB.out)⟩
                  (try clear BK215)
                  (try clear HB)
                  generalize ((w32.setCell ⟨gb215, 0, none⟩ (.int .i64 ((rd_T109 l0 x7_1).f0))).setCell ⟨gb215, 1, none⟩ (.int .i64 ((rd_T109 l0 x7_1).f1))) = w34 at n0_ n1_ ⊢
                  have BK215 := n0_
                  have HB := n1_
                  clear n0_ n1_
                  have n0_ := Aside0.mk (blk_drew BK215.out)
                  have n1_ := Aside0.mk (below_drew1 HB.out)
                  clear BK215
                  clear HB
                  have BK215 := n0_
                  have HB := n1_
                  clear n0_ n1_
                  have hq0_ : w34.cell? ⟨gb215, 0, none⟩ = some (.int .i64 ((rd_T109 l0 x7_1).f0)) := (blk_cell BK215.out 0).trans rfl
                  have hq1_ : w34.cell? ⟨gb215, 1, none⟩ = some (.int .i64 ((rd_T109 l0 x7_1).f1)) := (blk_cell BK215.out 1).trans rfl
                  go_quiet ((first | (go_at_call 82; apply Calls.quiet_of; ((with_reducible refine (impl_InRange.calls ((rd_T109 l0 x7_1).f0) 0 10000000 true _ A5.out).mono ?_); exact fun _ _ h_ => ⟨h_.1, h_.2.out⟩)) | (go_at_call 82; apply Calls.quiet_of; ((with_reducible refine (impl_InRange.calls ((rd_T109 l0 x7_1).f1) 0 127 true _ A7.out).mono ?_); exact fun _ _ h_ => ⟨h_.1, h_.2.out⟩))))
                  have nBK215_ := Aside0.mk (blk_drewN (w := w34) BK215.out nq)
                  have nHB_ := Aside0.mk (pw_below_drewN (W := w34) ⟨HB.out.os, HB.out.tape, HB.out.output, HB.out.size, HB.out.block⟩ nq)
                  clear BK215 HB hq0_ hq1_
                  have BK215 := nBK215_
                  have HB := nHB_
                  clear nBK215_ nHB_
                  generalize w34.drewN nq = w35 at BK215 HB ⊢
                  try go_wp2
                  go_roundg k1
                  case measure => have := HK1.out; omega
                  case rel => exact ⟨(wrap64 (x7_1 + 1)), (by first | rfl | (simp; done) | (simp [*]; done)), H', ⟨by have := HK1.out; omega⟩, ⟨by repeat (first | (with_reducible first | exact HB.out | apply below_alloc | apply pw_below_drewN | apply below_drew1 | refine below_set ?_ GE215.out) | exact HB.out)⟩⟩
              · replace c8 := Bool.eq_false_iff.mpr c8
                subst c8
                have H1 : (some false) = some r := by rw [if_neg (show ¬ (false = true) by decide)] at H; exact H
                clear H
                have H := H1
                clear H1
                obtain rfl := Option.some.inj H
                have p214 : 0 ≤ (x7_1 : Int) := of_decide_eq_true (by first | (with_reducible assumption) | assumption)
                have q214 : x7_1 < (l0.length : Int) := of_decide_eq_true (by first | (with_reducible assumption) | assumption)
                obtain ⟨ad214, e214, hx214_0, hx214_1⟩ := at_T109 HR0.out x7_1 p214 q214
                cases e214
                replace hx214_0 := (HB.out.cell (World.block_lt_of_cell? w _ hx214_0)).trans hx214_0
                replace hx214_1 := (HB.out.cell (World.block_lt_of_cell? w _ hx214_1)).trans hx214_1
                replace p214 := eq_true p214
                replace q214 := eq_true q214
                try go_wp2_with (first | ((with_reducible refine gate_dst (N := 4) rfl ?_); refine box_event ?hg (N := 4) ?hd (cs := #[.int .i64 0, .int .i64 0]) (t := 109) ?hr ?_; (case hd => rfl); (case hg => rfl); (case hr => first | (go_simp; done) | (go_simp; rfl)); intro gb215 hg w36 hbox hb; have n0_ := Aside0.mk (below_step (by repeat (first | (with_reducible first | exact HB.out | apply below_alloc | apply pw_below_drewN | apply below_drew1) | exact HB.out)) hb); have n1_ := Aside0.mk (hbox); have n2_ := Aside0.mk ((by rw [hg]; exact (below_size (by repeat (first | (with_reducible first | exact HB.out | apply below_alloc | apply pw_below_drewN | apply below_drew1) | exact HB.out))) : w.heap.size ≤ gb215)); have n3_ := Aside0.mk ((by rw [hg]; exact (below_size (by repeat (first | (with_reducible first | exact HB.out | apply below_alloc | apply pw_below_drewN | apply below_drew1) | exact HB.out))) : w.heap.size ≤ gb215)); clear HB; have HB := n0_; have BK215 := n1_; have GW215 := n2_; have GE215 := n3_; clear n0_ n1_ n2_ n3_; clear hb hbox hg; have hcz37_0 : w36.cell? ⟨gb215, 0, none⟩ = some (.int .i64 0) := (blk_cell BK215.out 0).trans rfl; have hcz37_1 : w36.cell? ⟨gb215, 1, none⟩ = some (.int .i64 0) := (blk_cell BK215.out 1).trans rfl; have hfz37_0 := blk_frozen BK215.out 0; have hfz37_1 := blk_frozen BK215.out 1))
                have n0_ : Aside0 (((w36.setCell ⟨gb215, 0, none⟩ (.int .i64 ((rd_T109 l0 x7_1).f0))).setCell ⟨gb215, 1, none⟩ (.int .i64 ((rd_T109 l0 x7_1).f1))).heap[gb215]? = some (.cells #[.int .i64 ((rd_T109 l0 x7_1).f0), .int .i64 ((rd_T109 l0 x7_1).f1)] 109 (0, 0))) := ⟨by (with_reducible repeat (first | refine blk_drewN ?_ _ | refine blk_drew ?_ | refine blk_alloc ?_ _)); refine blk_put (cs := #[.int .i64 ((rd_T109 l0 x7_1).f0), .int .i64 0]) ?_ 1 _ rfl; (with_reducible repeat (first | refine blk_drewN ?_ _ | refine blk_drew ?_ | refine blk_alloc ?_ _)); refine blk_put (cs := #[.int .i64 0, .int .i64 0]) ?_ 0 _ rfl; (with_reducible repeat (first | refine blk_drewN ?_ _ | refine blk_drew ?_ | refine blk_alloc ?_ _)); exact BK215.out⟩
                have n1_ : Aside0 (Below w.heap.size w ((w36.setCell ⟨gb215, 0, none⟩ (.int .i64 ((rd_T109 l0 x7_1).f0))).setCell ⟨gb215, 1, none⟩ (.int .i64 ((rd_T109 l0 x7_1).f1)))) := ⟨by repeat (first | (with_reducible first | exact HB.out | apply below_alloc | apply pw_below_drewN | apply below_drew1 | refine below_set ?_ GE215.out) | exact HB.out)⟩
                (try clear BK215)
                (try clear HB)
                generalize ((w36.setCell ⟨gb215, 0, none⟩ (.int .i64 ((rd_T109 l0 x7_1).f0))).setCell ⟨gb215, 1, none⟩ (.int .i64 ((rd_T109 l0 x7_1).f1))) = w38 at n0_ n1_ ⊢
                have BK215 := n0_
                have HB := n1_
                clear n0_ n1_
                have n0_ := Aside0.mk (blk_drew BK215.out)
                have n1_ := Aside0.mk (below_drew1 HB.out)
                clear BK215
                clear HB
                have BK215 := n0_
                have HB := n1_
                clear n0_ n1_
                have hq0_ : w38.cell? ⟨gb215, 0, none⟩ = some (.int .i64 ((rd_T109 l0 x7_1).f0)) := (blk_cell BK215.out 0).trans rfl
                have hq1_ : w38.cell? ⟨gb215, 1, none⟩ = some (.int .i64 ((rd_T109 l0 x7_1).f1)) := (blk_cell BK215.out 1).trans rfl
                go_quiet ((first | (go_at_call 82; apply Calls.quiet_of; ((with_reducible refine (impl_InRange.calls ((rd_T109 l0 x7_1).f0) 0 10000000 true _ A5.out).mono ?_); exact fun _ _ h_ => ⟨h_.1, h_.2.out⟩)) | (go_at_call 82; apply Calls.quiet_of; ((with_reducible refine (impl_InRange.calls ((rd_T109 l0 x7_1).f1) 0 127 false _ A7.out).mono ?_); exact fun _ _ h_ => ⟨h_.1, h_.2.out⟩))))
                have nBK215_ := Aside0.mk (blk_drewN (w := w38) BK215.out nq)
                have nHB_ := Aside0.mk (pw_below_drewN (W := w38) ⟨HB.out.os, HB.out.tape, HB.out.output, HB.out.size, HB.out.block⟩ nq)
                clear BK215 HB hq0_ hq1_
                have BK215 := nBK215_
                have HB := nHB_
                clear nBK215_ nHB_
                generalize w38.drewN nq = w39 at BK215 HB ⊢
                try go_wp2
                go_ret
                exact ⟨by first | rfl | (simp [errW_none, errW_some] <;> rfl) | (simp [*, errW_none, errW_some] <;> rfl), by repeat (first | (with_reducible first | exact HB.out | apply below_alloc | apply pw_below_drewN | apply below_drew1 | refine below_set ?_ GE215.out) | exact HB.out)⟩
            · replace c6 := Bool.eq_false_iff.mpr c6
              subst c6
              have H1 : (some false) = some r := by rw [if_neg (show ¬ (false = true) by decide)] at H; exact H
              clear H
              have H := H1
              clear H1
              obtain rfl := Option.some.inj H
              have p214 : 0 ≤ (x7_1 : Int) := of_decide_eq_true (by first | (with_reducible assumption) | assumption)
              have q214 : x7_1 < (l0.length : Int) := of_decide_eq_true (by first | (with_reducible assumption) | assumption)
              obtain ⟨ad214, e214, hx214_0, hx214_1⟩ := at_T109 HR0.out x7_1 p214 q214
              cases e214
              replace hx214_0 := (HB.out.cell (World.block_lt_of_cell? w _ hx214_0)).trans hx214_0
              replace hx214_1 := (HB.out.cell (World.block_lt_of_cell? w _ hx214_1)).trans hx214_1
              replace p214 := eq_true p214
              replace q214 := eq_true q214
              try go_wp2_with (first | ((with_reducible refine gate_dst (N := 4) rfl ?_); refine box_event ?hg (N := 4) ?hd (cs := #[.int .i64 0, .int .i64 0]) (t := 109) ?hr ?_; (case hd => rfl); (case hg => rfl); (case hr => first | (go_simp; done) | (go_simp; rfl)); intro gb215 hg w40 hbox hb; have n0_ := Aside0.mk (below_step (by repeat (first | (with_reducible first | exact HB.out | apply below_alloc | apply pw_below_drewN | apply below_drew1) | exact HB.out)) hb); have n1_ := Aside0.mk (hbox); have n2_ := Aside0.mk ((by rw [hg]; exact (below_size (by repeat (first | (with_reducible first | exact HB.out | apply below_alloc | apply pw_below_drewN | apply below_drew1) | exact HB.out))) : w.heap.size ≤ gb215)); have n3_ := Aside0.mk ((by rw [hg]; exact (below_size (by repeat (first | (with_reducible first | exact HB.out | apply below_alloc | apply pw_below_drewN | apply below_drew1) | exact HB.out))) : w.heap.size ≤ gb215)); clear HB; have HB := n0_; have BK215 := n1_; have GW215 := n2_; have GE215 := n3_; clear n0_ n1_ n2_ n3_; clear hb hbox hg; have hcz41_0 : w40.cell? ⟨gb215, 0, none⟩ = some (.int .i64 0) := (blk_cell BK215.out 0).trans rfl; have hcz41_1 : w40.cell? ⟨gb215, 1, none⟩ = some (.int .i64 0) := (blk_cell BK215.out 1).trans rfl; have hfz41_0 := blk_frozen BK215.out 0; have hfz41_1 := blk_frozen BK215.out 1))
              have n0_ : Aside0 (((w40.setCell ⟨gb215, 0, none⟩ (.int .i64 ((rd_T109 l0 x7_1).f0))).setCell ⟨gb215, 1, none⟩ (.int .i64 ((rd_T109 l0 x7_1).f1))).heap[gb215]? = some (.cells #[.int .i64 ((rd_T109 l0 x7_1).f0), .int .i64 ((rd_T109 l0 x7_1).f1)] 109 (0, 0))) := ⟨by (with_reducible repeat (first | refine blk_drewN ?_ _ | refine blk_drew ?_ | refine blk_alloc ?_ _)); refine blk_put (cs := #[.int .i64 ((rd_T109 l0 x7_1).f0), .int .i64 0]) ?_ 1 _ rfl; (with_reducible repeat (first | refine blk_drewN ?_ _ | refine blk_drew ?_ | refine blk_alloc ?_ _)); refine blk_put (cs := #[.int .i64 0, .int .i64 0]) ?_ 0 _ rfl; (with_reducible repeat (first | refine blk_drewN ?_ _ | refine blk_drew ?_ | refine blk_alloc ?_ _)); exact BK215.out⟩
              have n1_ : Aside0 (Below w.heap.size w ((w40.setCell ⟨gb215, 0, none⟩ (.int .i64 ((rd_T109 l0 x7_1).f0))).setCell ⟨gb215, 1, none⟩ (.int .i64 ((rd_T109 l0 x7_1).f1)))) := ⟨by repeat (first | (with_reducible first | exact HB.out | apply below_alloc | apply pw_below_drewN | apply below_drew1 | refine below_set ?_ GE215.out) | exact HB.out)⟩
              (try clear BK215)
              (try clear HB)
              generalize ((w40.setCell ⟨gb215, 0, none⟩ (.int .i64 ((rd_T109 l0 x7_1).f0))).setCell ⟨gb215, 1, none⟩ (.int .i64 ((rd_T109 l0 x7_1).f1))) = w42 at n0_ n1_ ⊢
              have BK215 := n0_
              have HB := n1_
              clear n0_ n1_
              have n0_ := Aside0.mk (blk_drew BK215.out)
              have n1_ := Aside0.mk (below_drew1 HB.out)
              clear BK215
              clear HB
              have BK215 := n0_
              have HB := n1_
              clear n0_ n1_
              have hq0_ : w42.cell? ⟨gb215, 0, none⟩ = some (.int .i64 ((rd_T109 l0 x7_1).f0)) := (blk_cell BK215.out 0).trans rfl
              have hq1_ : w42.cell? ⟨gb215, 1, none⟩ = some (.int .i64 ((rd_T109 l0 x7_1).f1)) := (blk_cell BK215.out 1).trans rfl
              go_quiet ((first | (go_at_call 82; apply Calls.quiet_of; ((with_reducible refine (impl_InRange.calls ((rd_T109 l0 x7_1).f0) 0 10000000 false _ A5.out).mono ?_); exact fun _ _ h_ => ⟨h_.1, h_.2.out⟩))))
              have nBK215_ := Aside0.mk (blk_drewN (w := w42) BK215.out nq)
              have nHB_ := Aside0.mk (pw_below_drewN (W := w42) ⟨HB.out.os, HB.out.tape, HB.out.output, HB.out.size, HB.out.block⟩ nq)
              clear BK215 HB hq0_ hq1_
              have BK215 := nBK215_
              have HB := nHB_
              clear nBK215_ nHB_
              generalize w42.drewN nq = w43 at BK215 HB ⊢
              try go_wp2
              go_ret
              exact ⟨by first | rfl | (simp [errW_none, errW_some] <;> rfl) | (simp [*, errW_none, errW_some] <;> rfl), by repeat (first | (with_reducible first | exact HB.out | apply below_alloc | apply pw_below_drewN | apply below_drew1 | refine below_set ?_ GE215.out) | exact HB.out)⟩
          · rw [if_neg c4] at H
            exact absurd H (by simp)
        · rw [if_neg c3] at H
          exact absurd H (by simp)
      · rw [if_neg c2] at H
        have c2b0 : decide (x7_1 < (l0.length : Int)) = false := decide_eq_false c2
        clear c2
        obtain rfl := Option.some.inj H
        go_wp2
        go_ret
        exact ⟨by first | rfl | (simp [errW_none, errW_some] <;> rfl) | (simp [*, errW_none, errW_some] <;> rfl), by repeat (first | (with_reducible first | exact HB.out | apply below_alloc | apply pw_below_drewN | apply below_drew1) | exact HB.out)⟩

end Go.Proofs.Ytiophiipmgpaeaa.F
