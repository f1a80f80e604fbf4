-- Written for this claim by the kit's print.py out of the translation, called by wip/tools/fprint.py. Lean checks it.
import Derived.Test.YtiophiipmgpaeaaF0
namespace Go.Proofs.Ytiophiipmgpaeaa.F
open Go.RowKit Go.Proofs.YtiophiipmgpaeaaW.PrintWords Go.Proofs.YtiophiipmgpaeaaW.PrintLast Go.Proofs.YtiophiipmgpaeaaW.PrintMore
attribute [local go_sem] max2_int min2_int max_two min_two max_three min_three max_four min_four   -- for this text's walks alone
set_option linter.unusedVariables false
set_option linter.unusedSimpArgs false

/-! ### impl_unfold: function 122 -/
mutual
def impl_unfold.l0 : Nat → List (S152) → List (S154) → Int → Int → Option ((List (S152)))
  | 0, _, _, _, _ => none
  | k + 1, x3, x9, x10, x11 => if x11 < x10 then (if 0 ≤ x11 then (if x11 < (x9.length : Int) then (impl_unfold.l1 k x3 1 x9 x10 x11 ((rd_T154 x9 x11).f0) ((rd_T154 x9 x11).f1) ((rd_T154 x9 x11).f2)) else (none)) else (none)) else (some x3)
def impl_unfold.l1 : Nat → List (S152) → Int → List (S154) → Int → Int → Int → Int → Int → Option ((List (S152)))
  | 0, _, _, _, _, _, _, _, _ => none
  | k + 1, x3, x6, x9, x10, x11, x1193000, x1193001, x1193002 => if x6 ≤ x1193002 then (impl_unfold.l2 k x3 x6 x1193000 x9 x10 x11 x1193000 x1193001 x1193002) else (impl_unfold.l0 k x3 x9 x10 (wrap64 (x11 + 1)))
def impl_unfold.l2 : Nat → List (S152) → Int → Int → List (S154) → Int → Int → Int → Int → Int → Option ((List (S152)))
  | 0, _, _, _, _, _, _, _, _, _ => none
  | k + 1, x3, x6, x7, x9, x10, x11, x1193000, x1193001, x1193002 => if x7 ≤ x1193001 then (if x3.length < 8796093022208 then (impl_unfold.l2 k (x3 ++ [(⟨x7, x6⟩ : S152)]) x6 (wrap64 (x7 + 1)) x9 x10 x11 x1193000 x1193001 x1193002) else (none)) else (impl_unfold.l1 k x3 (wrap64 (x6 + 1)) x9 x10 x11 x1193000 x1193001 x1193002)
end
def impl_unfold.f (k : Nat) (l0 : List (S154)) : Option ((List (S152))) := impl_unfold.l0 k (([] : List (S152))) l0 (l0.length : Int) 0
theorem impl_unfold.mono_l : ∀ k, (∀ y0 y1 y2 y3, LeO (impl_unfold.l0 k y0 y1 y2 y3) (impl_unfold.l0 (k + 1) y0 y1 y2 y3)) ∧ (∀ y0 y1 y2 y3 y4 y5 y6 y7, LeO (impl_unfold.l1 k y0 y1 y2 y3 y4 y5 y6 y7) (impl_unfold.l1 (k + 1) y0 y1 y2 y3 y4 y5 y6 y7)) ∧ (∀ y0 y1 y2 y3 y4 y5 y6 y7 y8, LeO (impl_unfold.l2 k y0 y1 y2 y3 y4 y5 y6 y7 y8) (impl_unfold.l2 (k + 1) y0 y1 y2 y3 y4 y5 y6 y7 y8))
  | 0 => ⟨fun _ _ _ _ r h => by simp [impl_unfold.l0] at h, fun _ _ _ _ _ _ _ _ r h => by simp [impl_unfold.l1] at h, fun _ _ _ _ _ _ _ _ _ r h => by simp [impl_unfold.l2] at h⟩
  | k + 1 => by
    obtain ⟨ih0, ih1, ih2⟩ := impl_unfold.mono_l k
    refine ⟨?_, ?_, ?_⟩
    · intro y0 y1 y2 y3
      unfold impl_unfold.l0
      repeat' first
      | (with_reducible exact ih0 _ _ _ _)
      | (with_reducible exact ih1 _ _ _ _ _ _ _ _)
      | (with_reducible exact ih2 _ _ _ _ _ _ _ _ _)
      | (with_reducible exact LeO.refl _)
      | (with_reducible exact LeO.none _)
      | (with_reducible refine LeO.ite ?_ ?_)
      | (with_reducible refine LeO.bind ?_ (fun _ => ?_))
      | exact ih0 _ _ _ _
      | exact ih1 _ _ _ _ _ _ _ _
      | exact ih2 _ _ _ _ _ _ _ _ _
      | exact LeO.none _
      | refine LeO.ite ?_ ?_
      | refine LeO.bind ?_ (fun _ => ?_)
    · intro y0 y1 y2 y3 y4 y5 y6 y7
      unfold impl_unfold.l1
      repeat' first
      | (with_reducible exact ih0 _ _ _ _)
      | (with_reducible exact ih1 _ _ _ _ _ _ _ _)
      | (with_reducible exact ih2 _ _ _ _ _ _ _ _ _)
      | (with_reducible exact LeO.refl _)
      | (with_reducible exact LeO.none _)
      | (with_reducible refine LeO.ite ?_ ?_)
      | (with_reducible refine LeO.bind ?_ (fun _ => ?_))
      | exact ih0 _ _ _ _
      | exact ih1 _ _ _ _ _ _ _ _
      | exact ih2 _ _ _ _ _ _ _ _ _
      | exact LeO.none _
      | refine LeO.ite ?_ ?_
      | refine LeO.bind ?_ (fun _ => ?_)
    · intro y0 y1 y2 y3 y4 y5 y6 y7 y8
      unfold impl_unfold.l2
      repeat' first
      | (with_reducible exact ih0 _ _ _ _)
      | (with_reducible exact ih1 _ _ _ _ _ _ _ _)
      | (with_reducible exact ih2 _ _ _ _ _ _ _ _ _)
      | (with_reducible exact LeO.refl _)
      | (with_reducible exact LeO.none _)
      | (with_reducible refine LeO.ite ?_ ?_)
      | (with_reducible refine LeO.bind ?_ (fun _ => ?_))
      | exact ih0 _ _ _ _
      | exact ih1 _ _ _ _ _ _ _ _
      | exact ih2 _ _ _ _ _ _ _ _ _
      | exact LeO.none _
      | refine LeO.ite ?_ ?_
      | refine LeO.bind ?_ (fun _ => ?_)
theorem impl_unfold.mono : ∀ a0 k, LeO (impl_unfold.f k a0) (impl_unfold.f (k + 1) a0) := by
  intro a0 k
  obtain ⟨ih0, ih1, ih2⟩ := impl_unfold.mono_l k
  unfold impl_unfold.f
  repeat' first
      | (with_reducible exact ih0 _ _ _ _)
      | (with_reducible exact ih1 _ _ _ _ _ _ _ _)
      | (with_reducible exact ih2 _ _ _ _ _ _ _ _ _)
      | (with_reducible exact LeO.refl _)
      | (with_reducible exact LeO.none _)
      | (with_reducible refine LeO.ite ?_ ?_)
      | (with_reducible refine LeO.bind ?_ (fun _ => ?_))
      | exact ih0 _ _ _ _
      | exact ih1 _ _ _ _ _ _ _ _
      | exact ih2 _ _ _ _ _ _ _ _ _
      | exact LeO.none _
      | refine LeO.ite ?_ ?_
      | refine LeO.bind ?_ (fun _ => ?_)
set_option maxHeartbeats 8000000 in
set_option maxRecDepth 100000 in
theorem impl_unfold.calls (k : Nat) (A0 : Option Addr) (c0 : Nat) (l0 : List (S154)) (r : List (S152)) (w : World) (hr0 : Kd.C k154 w A0 l0.length l0) (hc0 : l0.length ≤ c0) (h : impl_unfold.f k l0 = some r) :
    Calls Try.prog 122 #[.slice A0 l0.length c0] w fun e w' => ∃ v0_ : Value, e = .returned (v0_) ∧ Kd.R k152 152 w' w.heap.size (fun _ => True) v0_ r ∧ Below w.heap.size w w' := by
  have hu154 := Try.underlying154
  have hu152 := Try.underlying152
  have HR0 := Aside0.mk hr0
  have HC0 := Aside0.mk hc0
  clear hr0 hc0
  have HB := Aside0.mk (Below.refl w.heap.size w)
  have H : (impl_unfold.l0 k (([] : List (S152))) l0 (l0.length : Int) 0) = some r := h
  clear h
  obtain ⟨y1188, hy1188⟩ : ∃ y_ : List (S152), y_ = (([] : List (S152))) := ⟨_, rfl⟩
  replace H : (impl_unfold.l0 k y1188 l0 (l0.length : Int) 0) = some r := by first | (rw [hy1188]; with_reducible exact H) | (have H2_ := (Option.bind_some _ _).symm.trans H; rw [hy1188]; with_reducible exact H2_) | (have H2_ := (Option.bind_some _ _).symm.trans H; with_reducible exact H2_) | with_reducible exact H | (rw [hy1188]; exact H) | exact H
  have Ny1188 := Aside0.mk hy1188
  clear hy1188
  have H' := Aside0.mk H
  clear H
  go_enter Try.func122, Try.ntmps122
  go_wp2_with (first | ((with_reducible refine gate_dst (N := 8) rfl ?_); refine Kd.R_lit k152 _ 152 ?hg (N := 8) ?hd (xs := ([] : List (S152))) (inner := []) (ok := fun _ => True) (okp := fun _ => True) ?hr ?hp (fun _ hk => hk) trivial (Below.refl _ _) (Nat.le_refl _) (by simp) ?_; (case hd => rfl); (case hg => rfl); (case hr => first | (go_simp; done) | (go_simp; rfl)); (case hp => exact (Reps.none _ _)); intro v1189 w2 ho3 hb hg_ hnew_; clear hg_ hnew_; (first | rw [← Ny1188.out] at ho3 | (simp only [Int.reduceToNat] at ho3; rw [← Ny1188.out] at ho3)); have n0_ := Aside0.mk (Kd.R_lower ho3 (below_size (by repeat (first | (with_reducible first | exact HB.out | apply below_alloc | apply pw_below_drewN | apply below_drew1) | exact HB.out)))); have n1_ := Aside0.mk (below_step (by repeat (first | (with_reducible first | exact HB.out | apply below_alloc | apply pw_below_drewN | apply below_drew1) | exact HB.out)) hb); clear HB; have HO1190 := n0_; have HB := n1_; clear n0_ n1_; clear hb ho3))
  go_loopg [3, 11] k (fun kq v3 v11 w' => ∃ (x3_1 : List (S152)) (x11_1 : Int), v11 = .int .i64 x11_1 ∧ Aside0 (impl_unfold.l0 kq x3_1 l0 (l0.length : Int) x11_1 = some r) ∧ Aside0 (kq ≤ k) ∧ Aside0 (Kd.R k152 152 w' w.heap.size (fun _ => True) v3 x3_1) ∧ Aside0 (Below w.heap.size w w'))
  case atStart => exact ⟨(y1188), (0), (by first | rfl | (simp; done) | (simp [*]; done)), H', ⟨Nat.le_refl _⟩, ⟨by (with_reducible repeat (first | apply Kd.R_alloc | apply Kd.R_drewN | apply Kd.R_drew)); exact HO1190.out⟩, ⟨by repeat (first | (with_reducible first | exact HB.out | apply below_alloc | apply pw_below_drewN | apply below_drew1) | exact HB.out)⟩⟩
  case round =>
    clear H'
    try clear c1
    try clear p2
    obtain ⟨x3_1, x11_1, rfl, HA, HK1, HO_3, HB⟩ := hrel
    cases gk with
    | zero => exact absurd HA.out (by simp [impl_unfold.l0])
    | succ k1 =>
      have H := HA.out
      clear HA
      simp only [impl_unfold.l0] at H
      by_cases c4 : x11_1 < (l0.length : Int)
      · rw [if_pos c4] at H
        have c4b0 : decide (x11_1 < (l0.length : Int)) = true := decide_eq_true c4
        clear c4
        by_cases c5 : 0 ≤ x11_1
        · rw [if_pos c5] at H
          have c5b0 : decide (0 ≤ x11_1) = true := decide_eq_true c5
          clear c5
          by_cases c6 : x11_1 < (l0.length : Int)
          · rw [if_pos c6] at H
            have c6b0 : decide (x11_1 < (l0.length : Int)) = true := decide_eq_true c6
            clear c6
            have H' := Aside0.mk H
            clear H
            have p1191 : 0 ≤ (x11_1 : Int) := of_decide_eq_true (by first | (with_reducible assumption) | assumption)
            have q1191 : x11_1 < (l0.length : Int) := of_decide_eq_true (by first | (with_reducible assumption) | assumption)
            obtain ⟨ad1191, e1191, hx1191_0, hx1191_1, hx1191_2⟩ := at_T154 HR0.out x11_1 p1191 q1191
            cases e1191
            replace hx1191_0 := (HB.out.cell (World.block_lt_of_cell? w _ hx1191_0)).trans hx1191_0
            replace hx1191_1 := (HB.out.cell (World.block_lt_of_cell? w _ hx1191_1)).trans hx1191_1
            replace hx1191_2 := (HB.out.cell (World.block_lt_of_cell? w _ hx1191_2)).trans hx1191_2
            replace p1191 := eq_true p1191
            replace q1191 := eq_true q1191
            go_wp2_with (first | ((with_reducible refine gate_dst (N := 5) rfl ?_); refine box_event ?hg (N := 5) ?hd (cs := #[.int .i64 0, .int .i64 0, .int .i64 0]) (t := 154) ?hr ?_; (case hd => rfl); (case hg => rfl); (case hr => first | (go_simp; done) | (go_simp; rfl)); intro gb1192 hg w7 hbox hb; have n0_ := Aside0.mk (Kd.R_below (by (with_reducible repeat (first | apply Kd.R_alloc | apply Kd.R_drewN | apply Kd.R_drew)); exact HO_3.out) hb); have n1_ := Aside0.mk (below_step (by repeat (first | (with_reducible first | exact HB.out | apply below_alloc | apply pw_below_drewN | apply below_drew1) | exact HB.out)) hb); have n2_ := Aside0.mk (hbox); have n3_ := Aside0.mk ((by rw [hg]; exact (below_size (by repeat (first | (with_reducible first | exact HB.out | apply below_alloc | apply pw_below_drewN | apply below_drew1) | exact HB.out))) : w.heap.size ≤ gb1192)); have n4_ := Aside0.mk ((by rw [hg]; exact (below_size (by repeat (first | (with_reducible first | exact HB.out | apply below_alloc | apply pw_below_drewN | apply below_drew1) | exact HB.out))) : w.heap.size ≤ gb1192)); clear HO_3; clear HB; have HO_3 := n0_; have HB := n1_; have BK1192 := n2_; have GW1192 := n3_; have GE1192 := n4_; clear n0_ n1_ n2_ n3_ n4_; clear hb hbox hg; have hcz8_0 : w7.cell? ⟨gb1192, 0, none⟩ = some (.int .i64 0) := (blk_cell BK1192.out 0).trans rfl; have hcz8_1 : w7.cell? ⟨gb1192, 1, none⟩ = some (.int .i64 0) := (blk_cell BK1192.out 1).trans rfl; have hcz8_2 : w7.cell? ⟨gb1192, 2, none⟩ = some (.int .i64 0) := (blk_cell BK1192.out 2).trans rfl; have hfz8_0 := blk_frozen BK1192.out 0; have hfz8_1 := blk_frozen BK1192.out 1; have hfz8_2 := blk_frozen BK1192.out 2))
            go_loopg [3, 6] k1 (fun kq v3 v6 w' => ∃ (x3_2 : List (S152)) (x6_2 : Int), v6 = .int .i64 x6_2 ∧ Aside0 (impl_unfold.l1 kq x3_2 x6_2 l0 (l0.length : Int) x11_1 ((rd_T154 l0 x11_1).f0) ((rd_T154 l0 x11_1).f1) ((rd_T154 l0 x11_1).f2) = some r) ∧ Aside0 (kq ≤ k1) ∧ Aside0 (Kd.R k152 152 w' w.heap.size (fun _ => True) v3 x3_2) ∧ Aside0 (w'.heap[gb1192]? = some (.cells #[.int .i64 ((rd_T154 l0 x11_1).f0), .int .i64 ((rd_T154 l0 x11_1).f1), .int .i64 ((rd_T154 l0 x11_1).f2)] 154 (0, 0))) ∧ Aside0 (Below w.heap.size w w'))
            case atStart => exact ⟨(x3_1), (1), (by first | rfl | (simp; done) | (simp [*]; done)), H', ⟨Nat.le_refl _⟩, ⟨by (with_reducible repeat (first | apply Kd.R_alloc | apply Kd.R_drewN | apply Kd.R_drew)); exact Kd.R_mono (Kd.R_far (p := ⟨gb1192, 2, none⟩) (Kd.R_far (p := ⟨gb1192, 1, none⟩) (Kd.R_far (p := ⟨gb1192, 0, none⟩) (Kd.R_types HO_3.out BK1192.out (by decide)) (fun _ hk => hk.2) (.int .i64 ((rd_T154 l0 x11_1).f0))) (fun _ hk => hk.2) (.int .i64 ((rd_T154 l0 x11_1).f1))) (fun _ hk => hk.2) (.int .i64 ((rd_T154 l0 x11_1).f2))) (fun _ hk => trivial)⟩, ⟨by (with_reducible repeat (first | refine blk_drewN ?_ _ | refine blk_drew ?_ | refine blk_alloc ?_ _)); refine blk_put (cs := #[.int .i64 ((rd_T154 l0 x11_1).f0), .int .i64 ((rd_T154 l0 x11_1).f1), .int .i64 0]) ?_ 2 _ rfl; (with_reducible repeat (first | refine blk_drewN ?_ _ | refine blk_drew ?_ | refine blk_alloc ?_ _)); refine blk_put (cs := #[.int .i64 ((rd_T154 l0 x11_1).f0), .int .i64 0, .int .i64 0]) ?_ 1 _ rfl; (with_reducible repeat (first | refine blk_drewN ?_ _ | refine blk_drew ?_ | refine blk_alloc ?_ _)); refine blk_put (cs := #[.int .i64 0, .int .i64 0, .int .i64 0]) ?_ 0 _ rfl; (with_reducible repeat (first | refine blk_drewN ?_ _ | refine blk_drew ?_ | refine blk_alloc ?_ _)); exact BK1192.out⟩, ⟨by repeat (first | (with_reducible first | exact HB.out | apply below_alloc | apply pw_below_drewN | apply below_drew1 | refine below_set ?_ GE1192.out) | exact HB.out)⟩⟩
            case round =>
              clear H'
              try clear c1
              try clear p1
              try clear q1
              try clear hx1
              try clear p2
              try clear c4
              try clear c4b0
              try clear c5
              try clear c5b0
              try clear c6
              try clear c6b0
              try clear hcz8_0
              try clear hcz8_1
              try clear hcz8_2
              try clear hfz8_0
              try clear hfz8_1
              try clear hfz8_2
              try clear hx1191_0
              try clear hx1191_1
              try clear hx1191_2
              try clear p1191
              try clear p2
              try clear q1191
              obtain ⟨x3_2, x6_2, rfl, HA, HK2, HO_3, BK1192, HB⟩ := hrel
              cases gk with
              | zero => exact absurd HA.out (by simp [impl_unfold.l1])
              | succ k2 =>
                have H := HA.out
                clear HA
                simp only [impl_unfold.l1] at H
                by_cases c9 : x6_2 ≤ ((rd_T154 l0 x11_1).f2)
                · rw [if_pos c9] at H
                  have c9b0 : decide (x6_2 ≤ ((rd_T154 l0 x11_1).f2)) = true := decide_eq_true c9
                  clear c9
                  have H' := Aside0.mk H
                  clear H
                  have hcz10_0 : wr.cell? ⟨gb1192, 0, none⟩ = some (.int .i64 ((rd_T154 l0 x11_1).f0)) := (blk_cell BK1192.out 0).trans rfl
                  have hcz10_1 : wr.cell? ⟨gb1192, 1, none⟩ = some (.int .i64 ((rd_T154 l0 x11_1).f1)) := (blk_cell BK1192.out 1).trans rfl
                  have hcz10_2 : wr.cell? ⟨gb1192, 2, none⟩ = some (.int .i64 ((rd_T154 l0 x11_1).f2)) := (blk_cell BK1192.out 2).trans rfl
                  have hfz10_0 := blk_frozen BK1192.out 0
                  have hfz10_1 := blk_frozen BK1192.out 1
                  have hfz10_2 := blk_frozen BK1192.out 2
                  go_wp2
                  go_loopg [3, 7] k2 (fun kq v3 v7 w' => ∃ (x3_3 : List (S152)) (x7_3 : Int), v7 = .int .i64 x7_3 ∧ Aside0 (impl_unfold.l2 kq x3_3 x6_2 x7_3 l0 (l0.length : Int) x11_1 ((rd_T154 l0 x11_1).f0) ((rd_T154 l0 x11_1).f1) ((rd_T154 l0 x11_1).f2) = some r) ∧ Aside0 (kq ≤ k2) ∧ Aside0 (Kd.R k152 152 w' w.heap.size (fun _ => True) v3 x3_3) ∧ Aside0 (w'.heap[gb1192]? = some (.cells #[.int .i64 ((rd_T154 l0 x11_1).f0), .int .i64 ((rd_T154 l0 x11_1).f1), .int .i64 ((rd_T154 l0 x11_1).f2)] 154 (0, 0))) ∧ Aside0 (Below w.heap.size w w'))
                  case atStart => exact ⟨(x3_2), (((rd_T154 l0 x11_1).f0)), (by first | rfl | (simp; done) | (simp [*]; done)), H', ⟨Nat.le_refl _⟩, ⟨by (with_reducible repeat (first | apply Kd.R_alloc | apply Kd.R_drewN | apply Kd.R_drew)); exact HO_3.out⟩, ⟨by (with_reducible repeat (first | refine blk_drewN ?_ _ | refine blk_drew ?_ | refine blk_alloc ?_ _)); exact BK1192.out⟩, ⟨by repeat (first | (with_reducible first | exact HB.out | apply below_alloc | apply pw_below_drewN | apply below_drew1 | refine below_set ?_ GE1192.out) | exact HB.out)⟩⟩
                  case round =>
                    clear H'
                    try clear c1
                    try clear p1
                    try clear q1
                    try clear hx1
                    try clear p2
                    try clear c4
                    try clear c4b0
                    try clear c5
                    try clear c5b0
                    try clear c6
                    try clear c6b0
                    try clear c9
                    try clear c9b0
                    try clear hcz10_0
                    try clear hcz10_1
                    try clear hcz10_2
                    try clear hcz8_0
                    try clear hcz8_1
                    try clear hcz8_2
                    try clear hfz10_0
                    try clear hfz10_1
                    try clear hfz10_2
                    try clear hfz8_0
                    try clear hfz8_1
                    try clear hfz8_2
                    try clear hx1191_0
                    try clear hx1191_1
                    try clear hx1191_2
                    try clear p1
                    try clear p1191
                    try clear p2
                    try clear q1
                    try clear q1191
                    obtain ⟨x3_3, x7_3, rfl, HA, HK3, HO_3, BK1192, HB⟩ := hrel
                    cases gk with
                    | zero => exact absurd HA.out (by simp [impl_unfold.l2])
                    | succ k3 =>
                      have H := HA.out
                      clear HA
                      simp only [impl_unfold.l2] at H
                      by_cases c11 : x7_3 ≤ ((rd_T154 l0 x11_1).f1)
                      · rw [if_pos c11] at H
                        have c11b0 : decide (x7_3 ≤ ((rd_T154 l0 x11_1).f1)) = true := decide_eq_true c11
                        clear c11
                        by_cases c12 : x3_3.length < 8796093022208
                        · rw [if_pos c12] at H
                          have LMc12 := Aside0.mk c12
                          clear c12
                          obtain ⟨y1193, hy1193⟩ : ∃ y_ : List (S152), y_ = (x3_3 ++ [(⟨x7_3, x6_2⟩ : S152)]) := ⟨_, rfl⟩
                          replace H : (impl_unfold.l2 k3 y1193 x6_2 (wrap64 (x7_3 + 1)) l0 (l0.length : Int) x11_1 ((rd_T154 l0 x11_1).f0) ((rd_T154 l0 x11_1).f1) ((rd_T154 l0 x11_1).f2)) = some r := by first | (rw [hy1193]; with_reducible exact H) | (have H2_ := (Option.bind_some _ _).symm.trans H; rw [hy1193]; with_reducible exact H2_) | (have H2_ := (Option.bind_some _ _).symm.trans H; with_reducible exact H2_) | with_reducible exact H | (rw [hy1193]; exact H) | exact H
                          have Ny1193 := Aside0.mk hy1193
                          clear hy1193
                          have H' := Aside0.mk H
                          clear H
                          have hcz13_0 : wr.cell? ⟨gb1192, 0, none⟩ = some (.int .i64 ((rd_T154 l0 x11_1).f0)) := (blk_cell BK1192.out 0).trans rfl
                          have hcz13_1 : wr.cell? ⟨gb1192, 1, none⟩ = some (.int .i64 ((rd_T154 l0 x11_1).f1)) := (blk_cell BK1192.out 1).trans rfl
                          have hcz13_2 : wr.cell? ⟨gb1192, 2, none⟩ = some (.int .i64 ((rd_T154 l0 x11_1).f2)) := (blk_cell BK1192.out 2).trans rfl
                          have hfz13_0 := blk_frozen BK1192.out 0
                          have hfz13_1 := blk_frozen BK1192.out 1
                          have hfz13_2 := blk_frozen BK1192.out 2
                          go_wp2_with (first | ((with_reducible refine gate_builtin (b := .append) (xs := #[.tmp 29, .tmp 33]) rfl ?_); at_builtin; refine Kd.R_append k152 (w0 := w) w.heap.size rfl (.tmp 29) (.tmp 33) 149 152 (.agg #[(.int .i64 0), (.int .i64 0)]) 16 rfl Try.underlying149 info152 rfl (by decide) (by omega) u3 x3_3 (⟨x7_3, x6_2⟩ : S152) [.int .i64 x7_3, .int .i64 x6_2] (fun _ => True) (fun _ => False) rfl rfl ?aP (fun _ hk => hk.elim) ?aF ?aO ?aB ?aS ?aL ?_; (case aP => exact k152_mkM _ _ _ (⟨x7_3, x6_2⟩ : S152)); (case aB => exact (by repeat (first | (with_reducible first | exact HB.out | apply below_alloc | apply pw_below_drewN | apply below_drew1 | refine below_set ?_ GE1192.out) | exact HB.out))); (case aF => exact (fun _ _ => trivial)); (case aO => exact (by (with_reducible repeat (first | apply Kd.R_alloc | apply Kd.R_drewN | apply Kd.R_drew)); exact HO_3.out)); (case aS => exact (below_size (by repeat (first | (with_reducible first | exact HB.out | apply below_alloc | apply pw_below_drewN | apply below_drew1 | refine below_set ?_ GE1192.out) | exact HB.out)))); (case aL => have := LMc12.out; omega); intro v1194 w14 ho hb hg hat; rw [← Ny1193.out] at ho; have n0_ := Aside0.mk (blk_grown (g := gb1192) (o := .cells #[.int .i64 ((rd_T154 l0 x11_1).f0), .int .i64 ((rd_T154 l0 x11_1).f1), .int .i64 ((rd_T154 l0 x11_1).f2)] 154 (0, 0)) (by (with_reducible repeat (first | refine blk_drewN ?_ _ | refine blk_drew ?_ | refine blk_alloc ?_ _)); exact BK1192.out) hg (Kd.R_ne HO_3.out BK1192.out (by decide))); have n1_ := Aside0.mk (hb); have n2_ := Aside0.mk (ho); clear BK1192; clear HB; clear HO_3; have BK1192 := n0_; have HB := n1_; have HO1195 := n2_; clear n0_ n1_ n2_; clear ho hb hg hat))
                          go_roundg k3
                          case measure => have := HK1.out; have := HK2.out; have := HK3.out; omega
                          case rel => exact ⟨(y1193), (wrap64 (x7_3 + 1)), (by first | rfl | (simp; done) | (simp [*]; done)), H', ⟨by have := HK1.out; have := HK2.out; have := HK3.out; omega⟩, ⟨by (with_reducible repeat (first | apply Kd.R_alloc | apply Kd.R_drewN | apply Kd.R_drew)); exact HO1195.out⟩, ⟨by (with_reducible repeat (first | refine blk_drewN ?_ _ | refine blk_drew ?_ | refine blk_alloc ?_ _)); exact BK1192.out⟩, ⟨by repeat (first | (with_reducible first | exact HB.out | apply below_alloc | apply pw_below_drewN | apply below_drew1 | refine below_set ?_ GE1192.out) | exact HB.out)⟩⟩
                        · rw [if_neg c12] at H
                          exact absurd H (by simp)
                      · rw [if_neg c11] at H
                        have c11b0 : decide (x7_3 ≤ ((rd_T154 l0 x11_1).f1)) = false := decide_eq_false c11
                        clear c11
                        have H' := Aside0.mk H
                        clear H
                        have hcz15_0 : wr.cell? ⟨gb1192, 0, none⟩ = some (.int .i64 ((rd_T154 l0 x11_1).f0)) := (blk_cell BK1192.out 0).trans rfl
                        have hcz15_1 : wr.cell? ⟨gb1192, 1, none⟩ = some (.int .i64 ((rd_T154 l0 x11_1).f1)) := (blk_cell BK1192.out 1).trans rfl
                        have hcz15_2 : wr.cell? ⟨gb1192, 2, none⟩ = some (.int .i64 ((rd_T154 l0 x11_1).f2)) := (blk_cell BK1192.out 2).trans rfl
                        have hfz15_0 := blk_frozen BK1192.out 0
                        have hfz15_1 := blk_frozen BK1192.out 1
                        have hfz15_2 := blk_frozen BK1192.out 2
                        go_wp2
                        go_roundg k3
                        case measure => have := HK1.out; have := HK2.out; have := HK3.out; omega
                        case rel => exact ⟨(x3_3), (wrap64 (x6_2 + 1)), (by first | rfl | (simp; done) | (simp [*]; done)), H', ⟨by have := HK1.out; have := HK2.out; have := HK3.out; omega⟩, ⟨by (with_reducible repeat (first | apply Kd.R_alloc | apply Kd.R_drewN | apply Kd.R_drew)); exact HO_3.out⟩, ⟨by (with_reducible repeat (first | refine blk_drewN ?_ _ | refine blk_drew ?_ | refine blk_alloc ?_ _)); exact BK1192.out⟩, ⟨by repeat (first | (with_reducible first | exact HB.out | apply below_alloc | apply pw_below_drewN | apply below_drew1 | refine below_set ?_ GE1192.out) | exact HB.out)⟩⟩
                · rw [if_neg c9] at H
                  have c9b0 : decide (x6_2 ≤ ((rd_T154 l0 x11_1).f2)) = false := decide_eq_false c9
                  clear c9
                  have H' := Aside0.mk H
                  clear H
                  have hcz16_0 : wr.cell? ⟨gb1192, 0, none⟩ = some (.int .i64 ((rd_T154 l0 x11_1).f0)) := (blk_cell BK1192.out 0).trans rfl
                  have hcz16_1 : wr.cell? ⟨gb1192, 1, none⟩ = some (.int .i64 ((rd_T154 l0 x11_1).f1)) := (blk_cell BK1192.out 1).trans rfl
                  have hcz16_2 : wr.cell? ⟨gb1192, 2, none⟩ = some (.int .i64 ((rd_T154 l0 x11_1).f2)) := (blk_cell BK1192.out 2).trans rfl
                  have hfz16_0 := blk_frozen BK1192.out 0
                  have hfz16_1 := blk_frozen BK1192.out 1
                  have hfz16_2 := blk_frozen BK1192.out 2
                  go_wp2
                  go_roundg k2
                  case measure => have := HK1.out; have := HK2.out; omega
                  case rel => exact ⟨(x3_2), (wrap64 (x11_1 + 1)), (by first | rfl | (simp; done) | (simp [*]; done)), H', ⟨by have := HK1.out; have := HK2.out; omega⟩, ⟨by (with_reducible repeat (first | apply Kd.R_alloc | apply Kd.R_drewN | apply Kd.R_drew)); exact HO_3.out⟩, ⟨by repeat (first | (with_reducible first | exact HB.out | apply below_alloc | apply pw_below_drewN | apply below_drew1 | refine below_set ?_ GE1192.out) | exact HB.out)⟩⟩
          · rw [if_neg c6] at H
            exact absurd H (by simp)
        · rw [if_neg c5] at H
          exact absurd H (by simp)
      · rw [if_neg c4] at H
        have c4b0 : decide (x11_1 < (l0.length : Int)) = false := decide_eq_false c4
        clear c4
        obtain rfl := Option.some.inj H
        go_wp2
        go_ret
        exact ⟨_, by first | rfl | (simp [errW_none, errW_some] <;> rfl) | (simp [*, errW_none, errW_some] <;> rfl), by (with_reducible repeat (first | apply Kd.R_alloc | apply Kd.R_drewN | apply Kd.R_drew)); exact HO_3.out, by repeat (first | (with_reducible first | exact HB.out | apply below_alloc | apply pw_below_drewN | apply below_drew1) | exact HB.out)⟩

end Go.Proofs.Ytiophiipmgpaeaa.F
