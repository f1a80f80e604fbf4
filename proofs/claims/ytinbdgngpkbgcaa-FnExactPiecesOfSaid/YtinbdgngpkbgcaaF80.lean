-- Written for this claim by the kit's print.py out of the translation, called by wip/tools/fprint.py. Lean checks it.
import Derived.Test.YtinbdgngpkbgcaaF0
import Derived.Test.YtinbdgngpkbgcaaF7
import Derived.Test.YtinbdgngpkbgcaaF77
import Derived.Test.YtinbdgngpkbgcaaF79
namespace Go.Proofs.Ytinbdgngpkbgcaa.F
open Go.RowKit Go.Proofs.YtinbdgngpkbgcaaW.PrintWords Go.Proofs.YtinbdgngpkbgcaaW.PrintLast Go.Proofs.YtinbdgngpkbgcaaW.PrintMore
attribute [local go_sem] max2_int min2_int max_two min_two max_three min_three max_four min_four   -- for this text's walks alone
set_option linter.unusedVariables false
set_option linter.unusedSimpArgs false

/-! ### impl_PiecesOf: function 52 -/
mutual
def impl_PiecesOf.j0 : Nat → List (S97) → Bool → Int → Int → Int → Int → Int → Int → Option ((List (S97)))
  | 0, _, _, _, _, _, _, _, _ => none
  | k + 1, x5, x25, x679000, x679001, x680000, x680001, x680002, x680003 => if x25 = true then (some x5) else ((impl_BarLong.f x679000 x679001).bind fun t686 => (impl_PiecesOf.l0 k x5 t686 x680000 (wrap64 (x680000 + x680001))))
def impl_PiecesOf.l0 : Nat → List (S97) → Int → Int → Int → Option ((List (S97)))
  | 0, _, _, _, _ => none
  | k + 1, x5, x6, x7, x8 => if x7 < x8 then (if x6 = 0 then (none) else (if x5.length < 5864062014805 then (impl_PiecesOf.l0 k (x5 ++ [(⟨x7, wrap64 ((mn (wrap64 ((wrap64 (x7 - (Int.tmod x7 x6))) + x6)) x8) - x7), decide ((mn (wrap64 ((wrap64 (x7 - (Int.tmod x7 x6))) + x6)) x8) < x8)⟩ : S97)]) x6 (mn (wrap64 ((wrap64 (x7 - (Int.tmod x7 x6))) + x6)) x8) x8) else (none))) else (some x5)
end
def impl_PiecesOf.f (k : Nat) (a0_0 : Int) (a0_1 : Int) (a1_0 : Int) (a1_1 : Int) (a1_2 : Int) (a1_3 : Int) : Option ((List (S97))) := (some (([] : List (S97)) : List (S97))).bind fun y680 => ((impl_IsMeter.f a0_0 a0_1).bind fun t683 => (if t683 = true then ((impl_InRange.f a1_0 0 2000).bind fun t684 => (if t684 = true then ((impl_InRange.f a1_1 1 96).bind fun t685 => (impl_PiecesOf.j0 k y680 (!t685) a0_0 a0_1 a1_0 a1_1 a1_2 a1_3)) else (impl_PiecesOf.j0 k y680 true a0_0 a0_1 a1_0 a1_1 a1_2 a1_3))) else (impl_PiecesOf.j0 k y680 true a0_0 a0_1 a1_0 a1_1 a1_2 a1_3)))
theorem impl_PiecesOf.mono_l : ∀ k, (∀ y0 y1 y2 y3 y4 y5 y6 y7, LeO (impl_PiecesOf.j0 k y0 y1 y2 y3 y4 y5 y6 y7) (impl_PiecesOf.j0 (k + 1) y0 y1 y2 y3 y4 y5 y6 y7)) ∧ (∀ y0 y1 y2 y3, LeO (impl_PiecesOf.l0 k y0 y1 y2 y3) (impl_PiecesOf.l0 (k + 1) y0 y1 y2 y3))
  | 0 => ⟨fun _ _ _ _ _ _ _ _ r h => by simp [impl_PiecesOf.j0] at h, fun _ _ _ _ r h => by simp [impl_PiecesOf.l0] at h⟩
  | k + 1 => by
    obtain ⟨ih0, ih1⟩ := impl_PiecesOf.mono_l k
    refine ⟨?_, ?_⟩
    · intro y0 y1 y2 y3 y4 y5 y6 y7
      unfold impl_PiecesOf.j0
      repeat' first
      | (with_reducible exact ih0 _ _ _ _ _ _ _ _)
      | (with_reducible exact ih1 _ _ _ _)
      | (with_reducible exact LeO.refl _)
      | (with_reducible exact LeO.none _)
      | (with_reducible refine LeO.ite ?_ ?_)
      | (with_reducible refine LeO.bind ?_ (fun _ => ?_))
      | exact ih0 _ _ _ _ _ _ _ _
      | exact ih1 _ _ _ _
      | exact LeO.none _
      | refine LeO.ite ?_ ?_
      | refine LeO.bind ?_ (fun _ => ?_)
    · intro y0 y1 y2 y3
      unfold impl_PiecesOf.l0
      repeat' first
      | (with_reducible exact ih0 _ _ _ _ _ _ _ _)
      | (with_reducible exact ih1 _ _ _ _)
      | (with_reducible exact LeO.refl _)
      | (with_reducible exact LeO.none _)
      | (with_reducible refine LeO.ite ?_ ?_)
      | (with_reducible refine LeO.bind ?_ (fun _ => ?_))
      | exact ih0 _ _ _ _ _ _ _ _
      | exact ih1 _ _ _ _
      | exact LeO.none _
      | refine LeO.ite ?_ ?_
      | refine LeO.bind ?_ (fun _ => ?_)
theorem impl_PiecesOf.mono : ∀ a0 a1 a2 a3 a4 a5 k, LeO (impl_PiecesOf.f k a0 a1 a2 a3 a4 a5) (impl_PiecesOf.f (k + 1) a0 a1 a2 a3 a4 a5) := by
  intro a0 a1 a2 a3 a4 a5 k
  obtain ⟨ih0, ih1⟩ := impl_PiecesOf.mono_l k
  unfold impl_PiecesOf.f
  repeat' first
      | (with_reducible exact ih0 _ _ _ _ _ _ _ _)
      | (with_reducible exact ih1 _ _ _ _)
      | (with_reducible exact LeO.refl _)
      | (with_reducible exact LeO.none _)
      | (with_reducible refine LeO.ite ?_ ?_)
      | (with_reducible refine LeO.bind ?_ (fun _ => ?_))
      | exact ih0 _ _ _ _ _ _ _ _
      | exact ih1 _ _ _ _
      | exact LeO.none _
      | refine LeO.ite ?_ ?_
      | refine LeO.bind ?_ (fun _ => ?_)
set_option maxHeartbeats 8000000 in
set_option maxRecDepth 100000 in
theorem impl_PiecesOf.calls (k : Nat) (a0_0 : Int) (a0_1 : Int) (a1_0 : Int) (a1_1 : Int) (a1_2 : Int) (a1_3 : Int) (r : List (S97)) (w : World) (h : impl_PiecesOf.f k a0_0 a0_1 a1_0 a1_1 a1_2 a1_3 = some r) :
    Calls Try.prog 52 #[.agg #[.int .i64 a0_0, .int .i64 a0_1], .agg #[.int .i64 a1_0, .int .i64 a1_1, .int .i64 a1_2, .int .i64 a1_3]] w fun e w' => ∃ v0_ : Value, e = .returned (v0_) ∧ Kd.R k97 97 w' w.heap.size (fun _ => True) v0_ r ∧ Below w.heap.size w w' := by
  have hu59 := Try.underlying59
  have hu61 := Try.underlying61
  have hu97 := Try.underlying97
  have HB := Aside0.mk (Below.refl w.heap.size w)
  have H : ((some (([] : List (S97)) : List (S97))).bind fun y680 => ((impl_IsMeter.f a0_0 a0_1).bind fun t683 => (if t683 = true then ((impl_InRange.f a1_0 0 2000).bind fun t684 => (if t684 = true then ((impl_InRange.f a1_1 1 96).bind fun t685 => (impl_PiecesOf.j0 k y680 (!t685) a0_0 a0_1 a1_0 a1_1 a1_2 a1_3)) else (impl_PiecesOf.j0 k y680 true a0_0 a0_1 a1_0 a1_1 a1_2 a1_3))) else (impl_PiecesOf.j0 k y680 true a0_0 a0_1 a1_0 a1_1 a1_2 a1_3)))) = some r := h
  clear h
  obtain ⟨y680, hy680⟩ : ∃ y_ : List (S97), y_ = (([] : List (S97))) := ⟨_, rfl⟩
  replace H : ((impl_IsMeter.f a0_0 a0_1).bind fun t683 => (if t683 = true then ((impl_InRange.f a1_0 0 2000).bind fun t684 => (if t684 = true then ((impl_InRange.f a1_1 1 96).bind fun t685 => (impl_PiecesOf.j0 k y680 (!t685) a0_0 a0_1 a1_0 a1_1 a1_2 a1_3)) else (impl_PiecesOf.j0 k y680 true a0_0 a0_1 a1_0 a1_1 a1_2 a1_3))) else (impl_PiecesOf.j0 k y680 true a0_0 a0_1 a1_0 a1_1 a1_2 a1_3))) = some r := by first | (rw [hy680]; with_reducible exact H) | (have H2_ := (Option.bind_some _ _).symm.trans H; rw [hy680]; with_reducible exact H2_) | (have H2_ := (Option.bind_some _ _).symm.trans H; with_reducible exact H2_) | with_reducible exact H | (rw [hy680]; exact H) | exact H
  have Ny680 := Aside0.mk hy680
  clear hy680
  have HC3 := Aside0.mk H
  clear H
  go_enter Try.func52, Try.ntmps52
  go_upto_region 2 with (first | ((with_reducible refine gate_dst (N := 2) rfl ?_); refine box_event ?hg (N := 2) ?hd (cs := #[.int .i64 a0_0, .int .i64 a0_1]) (t := 59) ?hr ?_; (case hd => rfl); (case hg => rfl); (case hr => first | (go_simp; done) | (go_simp; rfl)); intro gb678 hg w4 hbox hb; have n0_ := Aside0.mk (below_step (by repeat (first | (with_reducible first | exact HB.out | apply below_alloc | apply pw_below_drewN | apply below_drew1) | exact HB.out)) hb); have n1_ := Aside0.mk (hbox); have n2_ := Aside0.mk ((by rw [hg]; exact (below_size (by repeat (first | (with_reducible first | exact HB.out | apply below_alloc | apply pw_below_drewN | apply below_drew1) | exact HB.out))) : w.heap.size ≤ gb678)); have n3_ := Aside0.mk ((by rw [hg]; exact (below_size (by repeat (first | (with_reducible first | exact HB.out | apply below_alloc | apply pw_below_drewN | apply below_drew1) | exact HB.out))) : w.heap.size ≤ gb678)); clear HB; have HB := n0_; have BK678 := n1_; have GW678 := n2_; have GE678 := n3_; clear n0_ n1_ n2_ n3_; clear hb hbox hg) | ((with_reducible refine gate_dst (N := 3) rfl ?_); refine box_event ?hg (N := 3) ?hd (cs := #[.int .i64 a1_0, .int .i64 a1_1, .int .i64 a1_2, .int .i64 a1_3]) (t := 61) ?hr ?_; (case hd => rfl); (case hg => rfl); (case hr => first | (go_simp; done) | (go_simp; rfl)); intro gb679 hg w5 hbox hb; have n0_ := Aside0.mk (blk_below (g := gb678) (o := .cells #[.int .i64 a0_0, .int .i64 a0_1] 59 (0, 0)) (by (with_reducible repeat (first | refine blk_drewN ?_ _ | refine blk_drew ?_ | refine blk_alloc ?_ _)); exact BK678.out) hb); have n1_ := Aside0.mk (below_step (by repeat (first | (with_reducible first | exact HB.out | apply below_alloc | apply pw_below_drewN | apply below_drew1 | refine below_set ?_ GE678.out) | exact HB.out)) hb); have n2_ := Aside0.mk (hbox); have n3_ := Aside0.mk ((by rw [hg]; exact (below_size (by repeat (first | (with_reducible first | exact HB.out | apply below_alloc | apply pw_below_drewN | apply below_drew1 | refine below_set ?_ GE678.out) | exact HB.out))) : w.heap.size ≤ gb679)); have n4_ := Aside0.mk ((by rw [hg]; exact (below_size (by repeat (first | (with_reducible first | exact HB.out | apply below_alloc | apply pw_below_drewN | apply below_drew1 | refine below_set ?_ GE678.out) | exact HB.out))) : w.heap.size ≤ gb679)); have n5_ := Aside0.mk ((by rw [hg]; exact Nat.ne_of_lt (blk_lt (g := gb678) (o := .cells #[.int .i64 a0_0, .int .i64 a0_1] 59 (0, 0)) (by (with_reducible repeat (first | refine blk_drewN ?_ _ | refine blk_drew ?_ | refine blk_alloc ?_ _)); exact BK678.out)) : gb678 ≠ gb679)); have n6_ := Aside0.mk ((by rw [hg]; exact Nat.ne_of_gt (blk_lt (g := gb678) (o := .cells #[.int .i64 a0_0, .int .i64 a0_1] 59 (0, 0)) (by (with_reducible repeat (first | refine blk_drewN ?_ _ | refine blk_drew ?_ | refine blk_alloc ?_ _)); exact BK678.out)) : gb679 ≠ gb678)); clear BK678; clear HB; have BK678 := n0_; have HB := n1_; have BK679 := n2_; have GW679 := n3_; have GE679 := n4_; have NB678_679 := n5_; have NB679_678 := n6_; clear n0_ n1_ n2_ n3_ n4_ n5_ n6_; clear hb hbox hg) | ((with_reducible refine gate_dst (N := 10) rfl ?_); refine Kd.R_lit k97 _ 97 ?hg (N := 10) ?hd (xs := ([] : List (S97))) (inner := []) (ok := fun _ => True) (okp := fun _ => True) ?hr ?hp (fun _ hk => hk) trivial (Below.refl _ _) (Nat.le_refl _) (by simp) ?_; (case hd => rfl); (case hg => rfl); (case hr => first | (go_simp; done) | (go_simp; rfl)); (case hp => exact (Reps.none _ _)); intro v681 w6 ho7 hb hg_ hnew_; clear hg_ hnew_; (first | rw [← Ny680.out] at ho7 | (simp only [Int.reduceToNat] at ho7; rw [← Ny680.out] at ho7)); have n0_ := Aside0.mk (Kd.R_lower ho7 (below_size (by repeat (first | (with_reducible first | exact HB.out | apply below_alloc | apply pw_below_drewN | apply below_drew1 | refine below_set ?_ GE678.out | refine below_set ?_ GE679.out) | exact HB.out)))); have n1_ := Aside0.mk (blk_below (g := gb678) (o := .cells #[.int .i64 a0_0, .int .i64 a0_1] 59 (0, 0)) (by (with_reducible repeat (first | refine blk_drewN ?_ _ | refine blk_drew ?_ | refine blk_alloc ?_ _)); exact BK678.out) hb); have n2_ := Aside0.mk (blk_below (g := gb679) (o := .cells #[.int .i64 a1_0, .int .i64 a1_1, .int .i64 a1_2, .int .i64 a1_3] 61 (0, 0)) (by (with_reducible repeat (first | refine blk_drewN ?_ _ | refine blk_drew ?_ | refine blk_alloc ?_ _)); exact BK679.out) hb); have n3_ := Aside0.mk (below_step (by repeat (first | (with_reducible first | exact HB.out | apply below_alloc | apply pw_below_drewN | apply below_drew1 | refine below_set ?_ GE678.out | refine below_set ?_ GE679.out) | exact HB.out)) hb); clear BK678; clear BK679; clear HB; have HO682 := n0_; have BK678 := n1_; have BK679 := n2_; have HB := n3_; clear n0_ n1_ n2_ n3_; clear hb ho7))
  repeat (go_quiet (first | ((with_reducible refine gate_dst (N := 2) rfl ?_); refine box_event ?hg (N := 2) ?hd (cs := #[.int .i64 a0_0, .int .i64 a0_1]) (t := 59) ?hr ?_; (case hd => rfl); (case hg => rfl); (case hr => first | (go_simp; done) | (go_simp; rfl)); intro gb678 hg w4 hbox hb; have n0_ := Aside0.mk (below_step (by repeat (first | (with_reducible first | exact HB.out | apply below_alloc | apply pw_below_drewN | apply below_drew1) | exact HB.out)) hb); have n1_ := Aside0.mk (hbox); have n2_ := Aside0.mk ((by rw [hg]; exact (below_size (by repeat (first | (with_reducible first | exact HB.out | apply below_alloc | apply pw_below_drewN | apply below_drew1) | exact HB.out))) : w.heap.size ≤ gb678)); have n3_ := Aside0.mk ((by rw [hg]; exact (below_size (by repeat (first | (with_reducible first | exact HB.out | apply below_alloc | apply pw_below_drewN | apply below_drew1) | exact HB.out))) : w.heap.size ≤ gb678)); clear HB; have HB := n0_; have BK678 := n1_; have GW678 := n2_; have GE678 := n3_; clear n0_ n1_ n2_ n3_; clear hb hbox hg) | ((with_reducible refine gate_dst (N := 3) rfl ?_); refine box_event ?hg (N := 3) ?hd (cs := #[.int .i64 a1_0, .int .i64 a1_1, .int .i64 a1_2, .int .i64 a1_3]) (t := 61) ?hr ?_; (case hd => rfl); (case hg => rfl); (case hr => first | (go_simp; done) | (go_simp; rfl)); intro gb679 hg w5 hbox hb; have n0_ := Aside0.mk (blk_below (g := gb678) (o := .cells #[.int .i64 a0_0, .int .i64 a0_1] 59 (0, 0)) (by (with_reducible repeat (first | refine blk_drewN ?_ _ | refine blk_drew ?_ | refine blk_alloc ?_ _)); exact BK678.out) hb); have n1_ := Aside0.mk (below_step (by repeat (first | (with_reducible first | exact HB.out | apply below_alloc | apply pw_below_drewN | apply below_drew1 | refine below_set ?_ GE678.out) | exact HB.out)) hb); have n2_ := Aside0.mk (hbox); have n3_ := Aside0.mk ((by rw [hg]; exact (below_size (by repeat (first | (with_reducible first | exact HB.out | apply below_alloc | apply pw_below_drewN | apply below_drew1 | refine below_set ?_ GE678.out) | exact HB.out))) : w.heap.size ≤ gb679)); have n4_ := Aside0.mk ((by rw [hg]; exact (below_size (by repeat (first | (with_reducible first | exact HB.out | apply below_alloc | apply pw_below_drewN | apply below_drew1 | refine below_set ?_ GE678.out) | exact HB.out))) : w.heap.size ≤ gb679)); have n5_ := Aside0.mk ((by rw [hg]; exact Nat.ne_of_lt (blk_lt (g := gb678) (o := .cells #[.int .i64 a0_0, .int .i64 a0_1] 59 (0, 0)) (by (with_reducible repeat (first | refine blk_drewN ?_ _ | refine blk_drew ?_ | refine blk_alloc ?_ _)); exact BK678.out)) : gb678 ≠ gb679)); have n6_ := Aside0.mk ((by rw [hg]; exact Nat.ne_of_gt (blk_lt (g := gb678) (o := .cells #[.int .i64 a0_0, .int .i64 a0_1] 59 (0, 0)) (by (with_reducible repeat (first | refine blk_drewN ?_ _ | refine blk_drew ?_ | refine blk_alloc ?_ _)); exact BK678.out)) : gb679 ≠ gb678)); clear BK678; clear HB; have BK678 := n0_; have HB := n1_; have BK679 := n2_; have GW679 := n3_; have GE679 := n4_; have NB678_679 := n5_; have NB679_678 := n6_; clear n0_ n1_ n2_ n3_ n4_ n5_ n6_; clear hb hbox hg) | ((with_reducible refine gate_dst (N := 10) rfl ?_); refine Kd.R_lit k97 _ 97 ?hg (N := 10) ?hd (xs := ([] : List (S97))) (inner := []) (ok := fun _ => True) (okp := fun _ => True) ?hr ?hp (fun _ hk => hk) trivial (Below.refl _ _) (Nat.le_refl _) (by simp) ?_; (case hd => rfl); (case hg => rfl); (case hr => first | (go_simp; done) | (go_simp; rfl)); (case hp => exact (Reps.none _ _)); intro v681 w6 ho7 hb hg_ hnew_; clear hg_ hnew_; (first | rw [← Ny680.out] at ho7 | (simp only [Int.reduceToNat] at ho7; rw [← Ny680.out] at ho7)); have n0_ := Aside0.mk (Kd.R_lower ho7 (below_size (by repeat (first | (with_reducible first | exact HB.out | apply below_alloc | apply pw_below_drewN | apply below_drew1 | refine below_set ?_ GE678.out | refine below_set ?_ GE679.out) | exact HB.out)))); have n1_ := Aside0.mk (blk_below (g := gb678) (o := .cells #[.int .i64 a0_0, .int .i64 a0_1] 59 (0, 0)) (by (with_reducible repeat (first | refine blk_drewN ?_ _ | refine blk_drew ?_ | refine blk_alloc ?_ _)); exact BK678.out) hb); have n2_ := Aside0.mk (blk_below (g := gb679) (o := .cells #[.int .i64 a1_0, .int .i64 a1_1, .int .i64 a1_2, .int .i64 a1_3] 61 (0, 0)) (by (with_reducible repeat (first | refine blk_drewN ?_ _ | refine blk_drew ?_ | refine blk_alloc ?_ _)); exact BK679.out) hb); have n3_ := Aside0.mk (below_step (by repeat (first | (with_reducible first | exact HB.out | apply below_alloc | apply pw_below_drewN | apply below_drew1 | refine below_set ?_ GE678.out | refine below_set ?_ GE679.out) | exact HB.out)) hb); clear BK678; clear BK679; clear HB; have HO682 := n0_; have BK678 := n1_; have BK679 := n2_; have HB := n3_; clear n0_ n1_ n2_ n3_; clear hb ho7)); go_upto_region 2 with (first | ((with_reducible refine gate_dst (N := 2) rfl ?_); refine box_event ?hg (N := 2) ?hd (cs := #[.int .i64 a0_0, .int .i64 a0_1]) (t := 59) ?hr ?_; (case hd => rfl); (case hg => rfl); (case hr => first | (go_simp; done) | (go_simp; rfl)); intro gb678 hg w4 hbox hb; have n0_ := Aside0.mk (below_step (by repeat (first | (with_reducible first | exact HB.out | apply below_alloc | apply pw_below_drewN | apply below_drew1) | exact HB.out)) hb); have n1_ := Aside0.mk (hbox); have n2_ := Aside0.mk ((by rw [hg]; exact (below_size (by repeat (first | (with_reducible first | exact HB.out | apply below_alloc | apply pw_below_drewN | apply below_drew1) | exact HB.out))) : w.heap.size ≤ gb678)); have n3_ := Aside0.mk ((by rw [hg]; exact (below_size (by repeat (first | (with_reducible first | exact HB.out | apply below_alloc | apply pw_below_drewN | apply below_drew1) | exact HB.out))) : w.heap.size ≤ gb678)); clear HB; have HB := n0_; have BK678 := n1_; have GW678 := n2_; have GE678 := n3_; clear n0_ n1_ n2_ n3_; clear hb hbox hg) | ((with_reducible refine gate_dst (N := 3) rfl ?_); refine box_event ?hg (N := 3) ?hd (cs := #[.int .i64 a1_0, .int .i64 a1_1, .int .i64 a1_2, .int .i64 a1_3]) (t := 61) ?hr ?_; (case hd => rfl); (case hg => rfl); (case hr => first | (go_simp; done) | (go_simp; rfl)); intro gb679 hg w5 hbox hb; have n0_ := Aside0.mk (blk_below (g := gb678) (o := .cells #[.int .i64 a0_0, .int .i64 a0_1] 59 (0, 0)) (by (with_reducible repeat (first | refine blk_drewN ?_ _ | refine blk_drew ?_ | refine blk_alloc ?_ _)); exact BK678.out) hb); have n1_ := Aside0.mk (below_step (by repeat (first | (with_reducible first | exact HB.out | apply below_alloc | apply pw_below_drewN | apply below_drew1 | refine below_set ?_ GE678.out) | exact HB.out)) hb); have n2_ := Aside0.mk (hbox); have n3_ := Aside0.mk ((by rw [hg]; exact (below_size (by repeat (first | (with_reducible first | exact HB.out | apply below_alloc | apply pw_below_drewN | apply below_drew1 | refine below_set ?_ GE678.out) | exact HB.out))) : w.heap.size ≤ gb679)); have n4_ := Aside0.mk ((by rw [hg]; exact (below_size (by repeat (first | (with_reducible first | exact HB.out | apply below_alloc | apply pw_below_drewN | apply below_drew1 | refine below_set ?_ GE678.out) | exact HB.out))) : w.heap.size ≤ gb679)); have n5_ := Aside0.mk ((by rw [hg]; exact Nat.ne_of_lt (blk_lt (g := gb678) (o := .cells #[.int .i64 a0_0, .int .i64 a0_1] 59 (0, 0)) (by (with_reducible repeat (first | refine blk_drewN ?_ _ | refine blk_drew ?_ | refine blk_alloc ?_ _)); exact BK678.out)) : gb678 ≠ gb679)); have n6_ := Aside0.mk ((by rw [hg]; exact Nat.ne_of_gt (blk_lt (g := gb678) (o := .cells #[.int .i64 a0_0, .int .i64 a0_1] 59 (0, 0)) (by (with_reducible repeat (first | refine blk_drewN ?_ _ | refine blk_drew ?_ | refine blk_alloc ?_ _)); exact BK678.out)) : gb679 ≠ gb678)); clear BK678; clear HB; have BK678 := n0_; have HB := n1_; have BK679 := n2_; have GW679 := n3_; have GE679 := n4_; have NB678_679 := n5_; have NB679_678 := n6_; clear n0_ n1_ n2_ n3_ n4_ n5_ n6_; clear hb hbox hg) | ((with_reducible refine gate_dst (N := 10) rfl ?_); refine Kd.R_lit k97 _ 97 ?hg (N := 10) ?hd (xs := ([] : List (S97))) (inner := []) (ok := fun _ => True) (okp := fun _ => True) ?hr ?hp (fun _ hk => hk) trivial (Below.refl _ _) (Nat.le_refl _) (by simp) ?_; (case hd => rfl); (case hg => rfl); (case hr => first | (go_simp; done) | (go_simp; rfl)); (case hp => exact (Reps.none _ _)); intro v681 w6 ho7 hb hg_ hnew_; clear hg_ hnew_; (first | rw [← Ny680.out] at ho7 | (simp only [Int.reduceToNat] at ho7; rw [← Ny680.out] at ho7)); have n0_ := Aside0.mk (Kd.R_lower ho7 (below_size (by repeat (first | (with_reducible first | exact HB.out | apply below_alloc | apply pw_below_drewN | apply below_drew1 | refine below_set ?_ GE678.out | refine below_set ?_ GE679.out) | exact HB.out)))); have n1_ := Aside0.mk (blk_below (g := gb678) (o := .cells #[.int .i64 a0_0, .int .i64 a0_1] 59 (0, 0)) (by (with_reducible repeat (first | refine blk_drewN ?_ _ | refine blk_drew ?_ | refine blk_alloc ?_ _)); exact BK678.out) hb); have n2_ := Aside0.mk (blk_below (g := gb679) (o := .cells #[.int .i64 a1_0, .int .i64 a1_1, .int .i64 a1_2, .int .i64 a1_3] 61 (0, 0)) (by (with_reducible repeat (first | refine blk_drewN ?_ _ | refine blk_drew ?_ | refine blk_alloc ?_ _)); exact BK679.out) hb); have n3_ := Aside0.mk (below_step (by repeat (first | (with_reducible first | exact HB.out | apply below_alloc | apply pw_below_drewN | apply below_drew1 | refine below_set ?_ GE678.out | refine below_set ?_ GE679.out) | exact HB.out)) hb); clear BK678; clear BK679; clear HB; have HO682 := n0_; have BK678 := n1_; have BK679 := n2_; have HB := n3_; clear n0_ n1_ n2_ n3_; clear hb ho7)))
  (try simp only [Act.put, List.setIfInBounds_toArray, List.set_cons_zero, List.set_cons_succ])
  go_cut [25] (fun v25 wc => ∃ (kq : Nat) (x25_2 : Bool), v25 = .bool x25_2 ∧ Aside0 (impl_PiecesOf.j0 kq y680 x25_2 a0_0 a0_1 a1_0 a1_1 a1_2 a1_3 = some r) ∧ Aside0 (kq ≤ k) ∧ Aside0 (Kd.R k97 97 wc w.heap.size (fun _ => True) v681 y680) ∧ Aside0 (wc.heap[gb678]? = some (.cells #[.int .i64 a0_0, .int .i64 a0_1] 59 (0, 0))) ∧ Aside0 (wc.heap[gb679]? = some (.cells #[.int .i64 a1_0, .int .i64 a1_1, .int .i64 a1_2, .int .i64 a1_3] 61 (0, 0))) ∧ Aside0 (Below w.heap.size w wc))
  case first =>
    have H := HC3.out
    clear HC3
    replace H := Option.bind_eq_some_iff.mp H
    obtain ⟨t683, A80, H⟩ := H
    replace H : (if t683 = true then ((impl_InRange.f a1_0 0 2000).bind fun t684 => (if t684 = true then ((impl_InRange.f a1_1 1 96).bind fun t685 => (impl_PiecesOf.j0 k y680 (!t685) a0_0 a0_1 a1_0 a1_1 a1_2 a1_3)) else (impl_PiecesOf.j0 k y680 true a0_0 a0_1 a1_0 a1_1 a1_2 a1_3))) else (impl_PiecesOf.j0 k y680 true a0_0 a0_1 a1_0 a1_1 a1_2 a1_3)) = some r := H
    have A8 := Aside0.mk A80
    clear A80
    by_cases c9 : t683 = true
    · subst c9
      have H1 : ((impl_InRange.f a1_0 0 2000).bind fun t684 => (if t684 = true then ((impl_InRange.f a1_1 1 96).bind fun t685 => (impl_PiecesOf.j0 k y680 (!t685) a0_0 a0_1 a1_0 a1_1 a1_2 a1_3)) else (impl_PiecesOf.j0 k y680 true a0_0 a0_1 a1_0 a1_1 a1_2 a1_3))) = some r := by rw [if_pos rfl] at H; exact H
      clear H
      have H := H1
      clear H1
      replace H := Option.bind_eq_some_iff.mp H
      obtain ⟨t684, A100, H⟩ := H
      replace H : (if t684 = true then ((impl_InRange.f a1_1 1 96).bind fun t685 => (impl_PiecesOf.j0 k y680 (!t685) a0_0 a0_1 a1_0 a1_1 a1_2 a1_3)) else (impl_PiecesOf.j0 k y680 true a0_0 a0_1 a1_0 a1_1 a1_2 a1_3)) = some r := H
      have A10 := Aside0.mk A100
      clear A100
      by_cases c11 : t684 = true
      · subst c11
        have H1 : ((impl_InRange.f a1_1 1 96).bind fun t685 => (impl_PiecesOf.j0 k y680 (!t685) a0_0 a0_1 a1_0 a1_1 a1_2 a1_3)) = some r := by rw [if_pos rfl] at H; exact H
        clear H
        have H := H1
        clear H1
        replace H := Option.bind_eq_some_iff.mp H
        obtain ⟨t685, A120, H⟩ := H
        replace H : (impl_PiecesOf.j0 k y680 (!t685) a0_0 a0_1 a1_0 a1_1 a1_2 a1_3) = some r := H
        have A12 := Aside0.mk A120
        clear A120
        have H' := Aside0.mk H
        clear H
        have hnb13 := NB678_679.out
        have hnc13 := NB679_678.out
        have hcz14_0 : w6.cell? ⟨gb678, 0, none⟩ = some (.int .i64 a0_0) := (blk_cell BK678.out 0).trans rfl
        have hcz14_1 : w6.cell? ⟨gb678, 1, none⟩ = some (.int .i64 a0_1) := (blk_cell BK678.out 1).trans rfl
        have hfz14_0 := blk_frozen BK678.out 0
        have hfz14_1 := blk_frozen BK678.out 1
        go_wp2_with (first | (go_at_call 84; (with_reducible refine (impl_IsMeter.calls a0_0 a0_1 true _ A8.out).mono ?_); rintro e w15 ⟨rfl, hb⟩; have n0_ := Aside0.mk (Kd.R_below (by (with_reducible repeat (first | apply Kd.R_alloc | apply Kd.R_drewN | apply Kd.R_drew)); exact HO682.out) hb); have n1_ := Aside0.mk (blk_below (g := gb678) (o := .cells #[.int .i64 a0_0, .int .i64 a0_1] 59 (0, 0)) (by (with_reducible repeat (first | refine blk_drewN ?_ _ | refine blk_drew ?_ | refine blk_alloc ?_ _)); exact BK678.out) hb); have n2_ := Aside0.mk (blk_below (g := gb679) (o := .cells #[.int .i64 a1_0, .int .i64 a1_1, .int .i64 a1_2, .int .i64 a1_3] 61 (0, 0)) (by (with_reducible repeat (first | refine blk_drewN ?_ _ | refine blk_drew ?_ | refine blk_alloc ?_ _)); exact BK679.out) hb); have n3_ := Aside0.mk (below_step (by repeat (first | (with_reducible first | exact HB.out | apply below_alloc | apply pw_below_drewN | apply below_drew1 | refine below_set ?_ GE678.out | refine below_set ?_ GE679.out) | exact HB.out)) hb); clear HO682; clear BK678; clear BK679; clear HB; have HO682 := n0_; have BK678 := n1_; have BK679 := n2_; have HB := n3_; clear n0_ n1_ n2_ n3_; (try clear hb); (try clear hb2); (try clear hk); (try clear hi); have hcz16_0 : w15.cell? ⟨gb679, 0, none⟩ = some (.int .i64 a1_0) := (blk_cell BK679.out 0).trans rfl; have hcz16_1 : w15.cell? ⟨gb679, 1, none⟩ = some (.int .i64 a1_1) := (blk_cell BK679.out 1).trans rfl; have hcz16_2 : w15.cell? ⟨gb679, 2, none⟩ = some (.int .i64 a1_2) := (blk_cell BK679.out 2).trans rfl; have hcz16_3 : w15.cell? ⟨gb679, 3, none⟩ = some (.int .i64 a1_3) := (blk_cell BK679.out 3).trans rfl; have hfz16_0 := blk_frozen BK679.out 0; have hfz16_1 := blk_frozen BK679.out 1; have hfz16_2 := blk_frozen BK679.out 2; have hfz16_3 := blk_frozen BK679.out 3) | (go_at_call 66; (with_reducible refine (impl_InRange.calls a1_0 0 2000 true _ A10.out).mono ?_); rintro e w' ⟨rfl, ⟨nd, rfl⟩⟩; (try first | exact ⟨rfl, _, World.drewN_drewN _ _ _⟩ | exact ⟨rfl, _, Eq.trans (World.drewN_drewN _ _ _) (congrArg (World.drewN _) (Nat.add_assoc _ _ _))⟩)) | (go_at_call 66; (with_reducible refine (impl_InRange.calls a1_1 1 96 t685 _ A12.out).mono ?_); rintro e w' ⟨rfl, ⟨nd, rfl⟩⟩; (try first | exact ⟨rfl, _, World.drewN_drewN _ _ _⟩ | exact ⟨rfl, _, Eq.trans (World.drewN_drewN _ _ _) (congrArg (World.drewN _) (Nat.add_assoc _ _ _))⟩)))
        repeat (go_quiet (first | (go_at_call 84; (with_reducible refine (impl_IsMeter.calls a0_0 a0_1 true _ A8.out).mono ?_); rintro e w15 ⟨rfl, hb⟩; have n0_ := Aside0.mk (Kd.R_below (by (with_reducible repeat (first | apply Kd.R_alloc | apply Kd.R_drewN | apply Kd.R_drew)); exact HO682.out) hb); have n1_ := Aside0.mk (blk_below (g := gb678) (o := .cells #[.int .i64 a0_0, .int .i64 a0_1] 59 (0, 0)) (by (with_reducible repeat (first | refine blk_drewN ?_ _ | refine blk_drew ?_ | refine blk_alloc ?_ _)); exact BK678.out) hb); have n2_ := Aside0.mk (blk_below (g := gb679) (o := .cells #[.int .i64 a1_0, .int .i64 a1_1, .int .i64 a1_2, .int .i64 a1_3] 61 (0, 0)) (by (with_reducible repeat (first | refine blk_drewN ?_ _ | refine blk_drew ?_ | refine blk_alloc ?_ _)); exact BK679.out) hb); have n3_ := Aside0.mk (below_step (by repeat (first | (with_reducible first | exact HB.out | apply below_alloc | apply pw_below_drewN | apply below_drew1 | refine below_set ?_ GE678.out | refine below_set ?_ GE679.out) | exact HB.out)) hb); clear HO682; clear BK678; clear BK679; clear HB; have HO682 := n0_; have BK678 := n1_; have BK679 := n2_; have HB := n3_; clear n0_ n1_ n2_ n3_; (try clear hb); (try clear hb2); (try clear hk); (try clear hi); have hcz16_0 : w15.cell? ⟨gb679, 0, none⟩ = some (.int .i64 a1_0) := (blk_cell BK679.out 0).trans rfl; have hcz16_1 : w15.cell? ⟨gb679, 1, none⟩ = some (.int .i64 a1_1) := (blk_cell BK679.out 1).trans rfl; have hcz16_2 : w15.cell? ⟨gb679, 2, none⟩ = some (.int .i64 a1_2) := (blk_cell BK679.out 2).trans rfl; have hcz16_3 : w15.cell? ⟨gb679, 3, none⟩ = some (.int .i64 a1_3) := (blk_cell BK679.out 3).trans rfl; have hfz16_0 := blk_frozen BK679.out 0; have hfz16_1 := blk_frozen BK679.out 1; have hfz16_2 := blk_frozen BK679.out 2; have hfz16_3 := blk_frozen BK679.out 3) | (go_at_call 66; (with_reducible refine (impl_InRange.calls a1_0 0 2000 true _ A10.out).mono ?_); rintro e w' ⟨rfl, ⟨nd, rfl⟩⟩; (try first | exact ⟨rfl, _, World.drewN_drewN _ _ _⟩ | exact ⟨rfl, _, Eq.trans (World.drewN_drewN _ _ _) (congrArg (World.drewN _) (Nat.add_assoc _ _ _))⟩)) | (go_at_call 66; (with_reducible refine (impl_InRange.calls a1_1 1 96 t685 _ A12.out).mono ?_); rintro e w' ⟨rfl, ⟨nd, rfl⟩⟩; (try first | exact ⟨rfl, _, World.drewN_drewN _ _ _⟩ | exact ⟨rfl, _, Eq.trans (World.drewN_drewN _ _ _) (congrArg (World.drewN _) (Nat.add_assoc _ _ _))⟩))); try go_wp2_with (first | (go_at_call 84; (with_reducible refine (impl_IsMeter.calls a0_0 a0_1 true _ A8.out).mono ?_); rintro e w15 ⟨rfl, hb⟩; have n0_ := Aside0.mk (Kd.R_below (by (with_reducible repeat (first | apply Kd.R_alloc | apply Kd.R_drewN | apply Kd.R_drew)); exact HO682.out) hb); have n1_ := Aside0.mk (blk_below (g := gb678) (o := .cells #[.int .i64 a0_0, .int .i64 a0_1] 59 (0, 0)) (by (with_reducible repeat (first | refine blk_drewN ?_ _ | refine blk_drew ?_ | refine blk_alloc ?_ _)); exact BK678.out) hb); have n2_ := Aside0.mk (blk_below (g := gb679) (o := .cells #[.int .i64 a1_0, .int .i64 a1_1, .int .i64 a1_2, .int .i64 a1_3] 61 (0, 0)) (by (with_reducible repeat (first | refine blk_drewN ?_ _ | refine blk_drew ?_ | refine blk_alloc ?_ _)); exact BK679.out) hb); have n3_ := Aside0.mk (below_step (by repeat (first | (with_reducible first | exact HB.out | apply below_alloc | apply pw_below_drewN | apply below_drew1 | refine below_set ?_ GE678.out | refine below_set ?_ GE679.out) | exact HB.out)) hb); clear HO682; clear BK678; clear BK679; clear HB; have HO682 := n0_; have BK678 := n1_; have BK679 := n2_; have HB := n3_; clear n0_ n1_ n2_ n3_; (try clear hb); (try clear hb2); (try clear hk); (try clear hi); have hcz16_0 : w15.cell? ⟨gb679, 0, none⟩ = some (.int .i64 a1_0) := (blk_cell BK679.out 0).trans rfl; have hcz16_1 : w15.cell? ⟨gb679, 1, none⟩ = some (.int .i64 a1_1) := (blk_cell BK679.out 1).trans rfl; have hcz16_2 : w15.cell? ⟨gb679, 2, none⟩ = some (.int .i64 a1_2) := (blk_cell BK679.out 2).trans rfl; have hcz16_3 : w15.cell? ⟨gb679, 3, none⟩ = some (.int .i64 a1_3) := (blk_cell BK679.out 3).trans rfl; have hfz16_0 := blk_frozen BK679.out 0; have hfz16_1 := blk_frozen BK679.out 1; have hfz16_2 := blk_frozen BK679.out 2; have hfz16_3 := blk_frozen BK679.out 3) | (go_at_call 66; (with_reducible refine (impl_InRange.calls a1_0 0 2000 true _ A10.out).mono ?_); rintro e w' ⟨rfl, ⟨nd, rfl⟩⟩; (try first | exact ⟨rfl, _, World.drewN_drewN _ _ _⟩ | exact ⟨rfl, _, Eq.trans (World.drewN_drewN _ _ _) (congrArg (World.drewN _) (Nat.add_assoc _ _ _))⟩)) | (go_at_call 66; (with_reducible refine (impl_InRange.calls a1_1 1 96 t685 _ A12.out).mono ?_); rintro e w' ⟨rfl, ⟨nd, rfl⟩⟩; (try first | exact ⟨rfl, _, World.drewN_drewN _ _ _⟩ | exact ⟨rfl, _, Eq.trans (World.drewN_drewN _ _ _) (congrArg (World.drewN _) (Nat.add_assoc _ _ _))⟩))))
        go_meet
        case rel => exact ⟨_, (!t685), (by first | rfl | (simp; done) | (simp [*]; done)), H', ⟨by first | omega | exact Nat.le_refl _⟩, ⟨by (with_reducible repeat (first | apply Kd.R_alloc | apply Kd.R_drewN | apply Kd.R_drew)); exact HO682.out⟩, ⟨by (with_reducible repeat (first | refine blk_drewN ?_ _ | refine blk_drew ?_ | refine blk_alloc ?_ _)); exact BK678.out⟩, ⟨by (with_reducible repeat (first | refine blk_drewN ?_ _ | refine blk_drew ?_ | refine blk_alloc ?_ _)); exact BK679.out⟩, ⟨by repeat (first | (with_reducible first | exact HB.out | apply below_alloc | apply pw_below_drewN | apply below_drew1 | refine below_set ?_ GE678.out | refine below_set ?_ GE679.out) | exact HB.out)⟩⟩
      · replace c11 := Bool.eq_false_iff.mpr c11
        subst c11
        have H1 : (impl_PiecesOf.j0 k y680 true a0_0 a0_1 a1_0 a1_1 a1_2 a1_3) = some r := by rw [if_neg (show ¬ (false = true) by decide)] at H; exact H
        clear H
        have H := H1
        clear H1
        have H' := Aside0.mk H
        clear H
        have hnb17 := NB678_679.out
        have hnc17 := NB679_678.out
        have hcz18_0 : w6.cell? ⟨gb678, 0, none⟩ = some (.int .i64 a0_0) := (blk_cell BK678.out 0).trans rfl
        have hcz18_1 : w6.cell? ⟨gb678, 1, none⟩ = some (.int .i64 a0_1) := (blk_cell BK678.out 1).trans rfl
        have hfz18_0 := blk_frozen BK678.out 0
        have hfz18_1 := blk_frozen BK678.out 1
        go_wp2_with (first | (go_at_call 84; (with_reducible refine (impl_IsMeter.calls a0_0 a0_1 true _ A8.out).mono ?_); rintro e w19 ⟨rfl, hb⟩; have n0_ := Aside0.mk (Kd.R_below (by (with_reducible repeat (first | apply Kd.R_alloc | apply Kd.R_drewN | apply Kd.R_drew)); exact HO682.out) hb); have n1_ := Aside0.mk (blk_below (g := gb678) (o := .cells #[.int .i64 a0_0, .int .i64 a0_1] 59 (0, 0)) (by (with_reducible repeat (first | refine blk_drewN ?_ _ | refine blk_drew ?_ | refine blk_alloc ?_ _)); exact BK678.out) hb); have n2_ := Aside0.mk (blk_below (g := gb679) (o := .cells #[.int .i64 a1_0, .int .i64 a1_1, .int .i64 a1_2, .int .i64 a1_3] 61 (0, 0)) (by (with_reducible repeat (first | refine blk_drewN ?_ _ | refine blk_drew ?_ | refine blk_alloc ?_ _)); exact BK679.out) hb); have n3_ := Aside0.mk (below_step (by repeat (first | (with_reducible first | exact HB.out | apply below_alloc | apply pw_below_drewN | apply below_drew1 | refine below_set ?_ GE678.out | refine below_set ?_ GE679.out) | exact HB.out)) hb); clear HO682; clear BK678; clear BK679; clear HB; have HO682 := n0_; have BK678 := n1_; have BK679 := n2_; have HB := n3_; clear n0_ n1_ n2_ n3_; (try clear hb); (try clear hb2); (try clear hk); (try clear hi); have hcz20_0 : w19.cell? ⟨gb679, 0, none⟩ = some (.int .i64 a1_0) := (blk_cell BK679.out 0).trans rfl; have hcz20_1 : w19.cell? ⟨gb679, 1, none⟩ = some (.int .i64 a1_1) := (blk_cell BK679.out 1).trans rfl; have hcz20_2 : w19.cell? ⟨gb679, 2, none⟩ = some (.int .i64 a1_2) := (blk_cell BK679.out 2).trans rfl; have hcz20_3 : w19.cell? ⟨gb679, 3, none⟩ = some (.int .i64 a1_3) := (blk_cell BK679.out 3).trans rfl; have hfz20_0 := blk_frozen BK679.out 0; have hfz20_1 := blk_frozen BK679.out 1; have hfz20_2 := blk_frozen BK679.out 2; have hfz20_3 := blk_frozen BK679.out 3) | (go_at_call 66; (with_reducible refine (impl_InRange.calls a1_0 0 2000 false _ A10.out).mono ?_); rintro e w' ⟨rfl, ⟨nd, rfl⟩⟩; (try first | exact ⟨rfl, _, World.drewN_drewN _ _ _⟩ | exact ⟨rfl, _, Eq.trans (World.drewN_drewN _ _ _) (congrArg (World.drewN _) (Nat.add_assoc _ _ _))⟩)))
        repeat (go_quiet (first | (go_at_call 84; (with_reducible refine (impl_IsMeter.calls a0_0 a0_1 true _ A8.out).mono ?_); rintro e w19 ⟨rfl, hb⟩; have n0_ := Aside0.mk (Kd.R_below (by (with_reducible repeat (first | apply Kd.R_alloc | apply Kd.R_drewN | apply Kd.R_drew)); exact HO682.out) hb); have n1_ := Aside0.mk (blk_below (g := gb678) (o := .cells #[.int .i64 a0_0, .int .i64 a0_1] 59 (0, 0)) (by (with_reducible repeat (first | refine blk_drewN ?_ _ | refine blk_drew ?_ | refine blk_alloc ?_ _)); exact BK678.out) hb); have n2_ := Aside0.mk (blk_below (g := gb679) (o := .cells #[.int .i64 a1_0, .int .i64 a1_1, .int .i64 a1_2, .int .i64 a1_3] 61 (0, 0)) (by (with_reducible repeat (first | refine blk_drewN ?_ _ | refine blk_drew ?_ | refine blk_alloc ?_ _)); exact BK679.out) hb); have n3_ := Aside0.mk (below_step (by repeat (first | (with_reducible first | exact HB.out | apply below_alloc | apply pw_below_drewN | apply below_drew1 | refine below_set ?_ GE678.out | refine below_set ?_ GE679.out) | exact HB.out)) hb); clear HO682; clear BK678; clear BK679; clear HB; have HO682 := n0_; have BK678 := n1_; have BK679 := n2_; have HB := n3_; clear n0_ n1_ n2_ n3_; (try clear hb); (try clear hb2); (try clear hk); (try clear hi); have hcz20_0 : w19.cell? ⟨gb679, 0, none⟩ = some (.int .i64 a1_0) := (blk_cell BK679.out 0).trans rfl; have hcz20_1 : w19.cell? ⟨gb679, 1, none⟩ = some (.int .i64 a1_1) := (blk_cell BK679.out 1).trans rfl; have hcz20_2 : w19.cell? ⟨gb679, 2, none⟩ = some (.int .i64 a1_2) := (blk_cell BK679.out 2).trans rfl; have hcz20_3 : w19.cell? ⟨gb679, 3, none⟩ = some (.int .i64 a1_3) := (blk_cell BK679.out 3).trans rfl; have hfz20_0 := blk_frozen BK679.out 0; have hfz20_1 := blk_frozen BK679.out 1; have hfz20_2 := blk_frozen BK679.out 2; have hfz20_3 := blk_frozen BK679.out 3) | (go_at_call 66; (with_reducible refine (impl_InRange.calls a1_0 0 2000 false _ A10.out).mono ?_); rintro e w' ⟨rfl, ⟨nd, rfl⟩⟩; (try first | exact ⟨rfl, _, World.drewN_drewN _ _ _⟩ | exact ⟨rfl, _, Eq.trans (World.drewN_drewN _ _ _) (congrArg (World.drewN _) (Nat.add_assoc _ _ _))⟩))); try go_wp2_with (first | (go_at_call 84; (with_reducible refine (impl_IsMeter.calls a0_0 a0_1 true _ A8.out).mono ?_); rintro e w19 ⟨rfl, hb⟩; have n0_ := Aside0.mk (Kd.R_below (by (with_reducible repeat (first | apply Kd.R_alloc | apply Kd.R_drewN | apply Kd.R_drew)); exact HO682.out) hb); have n1_ := Aside0.mk (blk_below (g := gb678) (o := .cells #[.int .i64 a0_0, .int .i64 a0_1] 59 (0, 0)) (by (with_reducible repeat (first | refine blk_drewN ?_ _ | refine blk_drew ?_ | refine blk_alloc ?_ _)); exact BK678.out) hb); have n2_ := Aside0.mk (blk_below (g := gb679) (o := .cells #[.int .i64 a1_0, .int .i64 a1_1, .int .i64 a1_2, .int .i64 a1_3] 61 (0, 0)) (by (with_reducible repeat (first | refine blk_drewN ?_ _ | refine blk_drew ?_ | refine blk_alloc ?_ _)); exact BK679.out) hb); have n3_ := Aside0.mk (below_step (by repeat (first | (with_reducible first | exact HB.out | apply below_alloc | apply pw_below_drewN | apply below_drew1 | refine below_set ?_ GE678.out | refine below_set ?_ GE679.out) | exact HB.out)) hb); clear HO682; clear BK678; clear BK679; clear HB; have HO682 := n0_; have BK678 := n1_; have BK679 := n2_; have HB := n3_; clear n0_ n1_ n2_ n3_; (try clear hb); (try clear hb2); (try clear hk); (try clear hi); have hcz20_0 : w19.cell? ⟨gb679, 0, none⟩ = some (.int .i64 a1_0) := (blk_cell BK679.out 0).trans rfl; have hcz20_1 : w19.cell? ⟨gb679, 1, none⟩ = some (.int .i64 a1_1) := (blk_cell BK679.out 1).trans rfl; have hcz20_2 : w19.cell? ⟨gb679, 2, none⟩ = some (.int .i64 a1_2) := (blk_cell BK679.out 2).trans rfl; have hcz20_3 : w19.cell? ⟨gb679, 3, none⟩ = some (.int .i64 a1_3) := (blk_cell BK679.out 3).trans rfl; have hfz20_0 := blk_frozen BK679.out 0; have hfz20_1 := blk_frozen BK679.out 1; have hfz20_2 := blk_frozen BK679.out 2; have hfz20_3 := blk_frozen BK679.out 3) | (go_at_call 66; (with_reducible refine (impl_InRange.calls a1_0 0 2000 false _ A10.out).mono ?_); rintro e w' ⟨rfl, ⟨nd, rfl⟩⟩; (try first | exact ⟨rfl, _, World.drewN_drewN _ _ _⟩ | exact ⟨rfl, _, Eq.trans (World.drewN_drewN _ _ _) (congrArg (World.drewN _) (Nat.add_assoc _ _ _))⟩))))
        go_meet
        case rel => exact ⟨_, (true), (by first | rfl | (simp; done) | (simp [*]; done)), H', ⟨by first | omega | exact Nat.le_refl _⟩, ⟨by (with_reducible repeat (first | apply Kd.R_alloc | apply Kd.R_drewN | apply Kd.R_drew)); exact HO682.out⟩, ⟨by (with_reducible repeat (first | refine blk_drewN ?_ _ | refine blk_drew ?_ | refine blk_alloc ?_ _)); exact BK678.out⟩, ⟨by (with_reducible repeat (first | refine blk_drewN ?_ _ | refine blk_drew ?_ | refine blk_alloc ?_ _)); exact BK679.out⟩, ⟨by repeat (first | (with_reducible first | exact HB.out | apply below_alloc | apply pw_below_drewN | apply below_drew1 | refine below_set ?_ GE678.out | refine below_set ?_ GE679.out) | exact HB.out)⟩⟩
    · replace c9 := Bool.eq_false_iff.mpr c9
      subst c9
      have H1 : (impl_PiecesOf.j0 k y680 true a0_0 a0_1 a1_0 a1_1 a1_2 a1_3) = some r := by rw [if_neg (show ¬ (false = true) by decide)] at H; exact H
      clear H
      have H := H1
      clear H1
      have H' := Aside0.mk H
      clear H
      have hnb21 := NB678_679.out
      have hnc21 := NB679_678.out
      have hcz22_0 : w6.cell? ⟨gb678, 0, none⟩ = some (.int .i64 a0_0) := (blk_cell BK678.out 0).trans rfl
      have hcz22_1 : w6.cell? ⟨gb678, 1, none⟩ = some (.int .i64 a0_1) := (blk_cell BK678.out 1).trans rfl
      have hfz22_0 := blk_frozen BK678.out 0
      have hfz22_1 := blk_frozen BK678.out 1
      go_wp2_with (first | (go_at_call 84; (with_reducible refine (impl_IsMeter.calls a0_0 a0_1 false _ A8.out).mono ?_); rintro e w23 ⟨rfl, hb⟩; have n0_ := Aside0.mk (Kd.R_below (by (with_reducible repeat (first | apply Kd.R_alloc | apply Kd.R_drewN | apply Kd.R_drew)); exact HO682.out) hb); have n1_ := Aside0.mk (blk_below (g := gb678) (o := .cells #[.int .i64 a0_0, .int .i64 a0_1] 59 (0, 0)) (by (with_reducible repeat (first | refine blk_drewN ?_ _ | refine blk_drew ?_ | refine blk_alloc ?_ _)); exact BK678.out) hb); have n2_ := Aside0.mk (blk_below (g := gb679) (o := .cells #[.int .i64 a1_0, .int .i64 a1_1, .int .i64 a1_2, .int .i64 a1_3] 61 (0, 0)) (by (with_reducible repeat (first | refine blk_drewN ?_ _ | refine blk_drew ?_ | refine blk_alloc ?_ _)); exact BK679.out) hb); have n3_ := Aside0.mk (below_step (by repeat (first | (with_reducible first | exact HB.out | apply below_alloc | apply pw_below_drewN | apply below_drew1 | refine below_set ?_ GE678.out | refine below_set ?_ GE679.out) | exact HB.out)) hb); clear HO682; clear BK678; clear BK679; clear HB; have HO682 := n0_; have BK678 := n1_; have BK679 := n2_; have HB := n3_; clear n0_ n1_ n2_ n3_; (try clear hb); (try clear hb2); (try clear hk); (try clear hi)))
      repeat (go_quiet (first | (go_at_call 84; (with_reducible refine (impl_IsMeter.calls a0_0 a0_1 false _ A8.out).mono ?_); rintro e w23 ⟨rfl, hb⟩; have n0_ := Aside0.mk (Kd.R_below (by (with_reducible repeat (first | apply Kd.R_alloc | apply Kd.R_drewN | apply Kd.R_drew)); exact HO682.out) hb); have n1_ := Aside0.mk (blk_below (g := gb678) (o := .cells #[.int .i64 a0_0, .int .i64 a0_1] 59 (0, 0)) (by (with_reducible repeat (first | refine blk_drewN ?_ _ | refine blk_drew ?_ | refine blk_alloc ?_ _)); exact BK678.out) hb); have n2_ := Aside0.mk (blk_below (g := gb679) (o := .cells #[.int .i64 a1_0, .int .i64 a1_1, .int .i64 a1_2, .int .i64 a1_3] 61 (0, 0)) (by (with_reducible repeat (first | refine blk_drewN ?_ _ | refine blk_drew ?_ | refine blk_alloc ?_ _)); exact BK679.out) hb); have n3_ := Aside0.mk (below_step (by repeat (first | (with_reducible first | exact HB.out | apply below_alloc | apply pw_below_drewN | apply below_drew1 | refine below_set ?_ GE678.out | refine below_set ?_ GE679.out) | exact HB.out)) hb); clear HO682; clear BK678; clear BK679; clear HB; have HO682 := n0_; have BK678 := n1_; have BK679 := n2_; have HB := n3_; clear n0_ n1_ n2_ n3_; (try clear hb); (try clear hb2); (try clear hk); (try clear hi))); try go_wp2_with (first | (go_at_call 84; (with_reducible refine (impl_IsMeter.calls a0_0 a0_1 false _ A8.out).mono ?_); rintro e w23 ⟨rfl, hb⟩; have n0_ := Aside0.mk (Kd.R_below (by (with_reducible repeat (first | apply Kd.R_alloc | apply Kd.R_drewN | apply Kd.R_drew)); exact HO682.out) hb); have n1_ := Aside0.mk (blk_below (g := gb678) (o := .cells #[.int .i64 a0_0, .int .i64 a0_1] 59 (0, 0)) (by (with_reducible repeat (first | refine blk_drewN ?_ _ | refine blk_drew ?_ | refine blk_alloc ?_ _)); exact BK678.out) hb); have n2_ := Aside0.mk (blk_below (g := gb679) (o := .cells #[.int .i64 a1_0, .int .i64 a1_1, .int .i64 a1_2, .int .i64 a1_3] 61 (0, 0)) (by (with_reducible repeat (first | refine blk_drewN ?_ _ | refine blk_drew ?_ | refine blk_alloc ?_ _)); exact BK679.out) hb); have n3_ := Aside0.mk (below_step (by repeat (first | (with_reducible first | exact HB.out | apply below_alloc | apply pw_below_drewN | apply below_drew1 | refine below_set ?_ GE678.out | refine below_set ?_ GE679.out) | exact HB.out)) hb); clear HO682; clear BK678; clear BK679; clear HB; have HO682 := n0_; have BK678 := n1_; have BK679 := n2_; have HB := n3_; clear n0_ n1_ n2_ n3_; (try clear hb); (try clear hb2); (try clear hk); (try clear hi))))
      go_meet
      case rel => exact ⟨_, (true), (by first | rfl | (simp; done) | (simp [*]; done)), H', ⟨by first | omega | exact Nat.le_refl _⟩, ⟨by (with_reducible repeat (first | apply Kd.R_alloc | apply Kd.R_drewN | apply Kd.R_drew)); exact HO682.out⟩, ⟨by (with_reducible repeat (first | refine blk_drewN ?_ _ | refine blk_drew ?_ | refine blk_alloc ?_ _)); exact BK678.out⟩, ⟨by (with_reducible repeat (first | refine blk_drewN ?_ _ | refine blk_drew ?_ | refine blk_alloc ?_ _)); exact BK679.out⟩, ⟨by repeat (first | (with_reducible first | exact HB.out | apply below_alloc | apply pw_below_drewN | apply below_drew1 | refine below_set ?_ GE678.out | refine below_set ?_ GE679.out) | exact HB.out)⟩⟩
  case rest =>
    clear HC3
    try clear c1
    try clear c2
    try clear p2
    try clear c5
    try clear c9
    try clear c11
    try clear c13
    try clear c17
    try clear c21
    try clear hcz14_0
    try clear hcz14_1
    try clear hcz16_0
    try clear hcz16_1
    try clear hcz16_2
    try clear hcz16_3
    try clear hcz18_0
    try clear hcz18_1
    try clear hcz20_0
    try clear hcz20_1
    try clear hcz20_2
    try clear hcz20_3
    try clear hcz22_0
    try clear hcz22_1
    try clear hfz14_0
    try clear hfz14_1
    try clear hfz16_0
    try clear hfz16_1
    try clear hfz16_2
    try clear hfz16_3
    try clear hfz18_0
    try clear hfz18_1
    try clear hfz20_0
    try clear hfz20_1
    try clear hfz20_2
    try clear hfz20_3
    try clear hfz22_0
    try clear hfz22_1
    obtain ⟨kq, x25_2, rfl, HA, HJ2, HO_5, BK678, BK679, HB⟩ := hcut
    cases kq with
    | zero => exact absurd HA.out (by simp [impl_PiecesOf.j0])
    | succ kj2 =>
      have H := HA.out
      clear HA
      simp only [impl_PiecesOf.j0] at H
      by_cases c24 : x25_2 = true
      · subst c24
        have H1 : (some y680) = some r := by rw [if_pos rfl] at H; exact H
        clear H
        have H := H1
        clear H1
        obtain rfl := Option.some.inj H
        go_wp2
        repeat (go_quiet (fail); try go_wp2)
        go_ret
        exact ⟨_, by first | rfl | (simp [errW_none, errW_some] <;> rfl) | (simp [*, errW_none, errW_some] <;> rfl), by (with_reducible repeat (first | apply Kd.R_alloc | apply Kd.R_drewN | apply Kd.R_drew)); exact HO_5.out, by repeat (first | (with_reducible first | exact HB.out | apply below_alloc | apply pw_below_drewN | apply below_drew1 | refine below_set ?_ GE678.out | refine below_set ?_ GE679.out) | exact HB.out)⟩
      · replace c24 := Bool.eq_false_iff.mpr c24
        subst c24
        have H1 : ((impl_BarLong.f a0_0 a0_1).bind fun t686 => (impl_PiecesOf.l0 kj2 y680 t686 a1_0 (wrap64 (a1_0 + a1_1)))) = some r := by rw [if_neg (show ¬ (false = true) by decide)] at H; exact H
        clear H
        have H := H1
        clear H1
        replace H := Option.bind_eq_some_iff.mp H
        obtain ⟨t686, A250, H⟩ := H
        replace H : (impl_PiecesOf.l0 kj2 y680 t686 a1_0 (wrap64 (a1_0 + a1_1))) = some r := H
        have A25 := Aside0.mk A250
        clear A250
        have H' := Aside0.mk H
        clear H
        have hnb26 := NB678_679.out
        have hnc26 := NB679_678.out
        have hcz27_0 : wc.cell? ⟨gb678, 0, none⟩ = some (.int .i64 a0_0) := (blk_cell BK678.out 0).trans rfl
        have hcz27_1 : wc.cell? ⟨gb678, 1, none⟩ = some (.int .i64 a0_1) := (blk_cell BK678.out 1).trans rfl
        have hfz27_0 := blk_frozen BK678.out 0
        have hfz27_1 := blk_frozen BK678.out 1
        go_wp2_with (first | (go_at_call 85; (with_reducible refine (impl_BarLong.calls a0_0 a0_1 t686 _ A25.out).mono ?_); rintro e w28 ⟨rfl, hb⟩; have n0_ := Aside0.mk (Kd.R_below (by (with_reducible repeat (first | apply Kd.R_alloc | apply Kd.R_drewN | apply Kd.R_drew)); exact HO_5.out) hb); have n1_ := Aside0.mk (blk_below (g := gb678) (o := .cells #[.int .i64 a0_0, .int .i64 a0_1] 59 (0, 0)) (by (with_reducible repeat (first | refine blk_drewN ?_ _ | refine blk_drew ?_ | refine blk_alloc ?_ _)); exact BK678.out) hb); have n2_ := Aside0.mk (blk_below (g := gb679) (o := .cells #[.int .i64 a1_0, .int .i64 a1_1, .int .i64 a1_2, .int .i64 a1_3] 61 (0, 0)) (by (with_reducible repeat (first | refine blk_drewN ?_ _ | refine blk_drew ?_ | refine blk_alloc ?_ _)); exact BK679.out) hb); have n3_ := Aside0.mk (below_step (by repeat (first | (with_reducible first | exact HB.out | apply below_alloc | apply pw_below_drewN | apply below_drew1 | refine below_set ?_ GE678.out | refine below_set ?_ GE679.out) | exact HB.out)) hb); clear HO_5; clear BK678; clear BK679; clear HB; have HO_5 := n0_; have BK678 := n1_; have BK679 := n2_; have HB := n3_; clear n0_ n1_ n2_ n3_; (try clear hb); (try clear hb2); (try clear hk); (try clear hi); have hcz29_0 : w28.cell? ⟨gb679, 0, none⟩ = some (.int .i64 a1_0) := (blk_cell BK679.out 0).trans rfl; have hcz29_1 : w28.cell? ⟨gb679, 1, none⟩ = some (.int .i64 a1_1) := (blk_cell BK679.out 1).trans rfl; have hcz29_2 : w28.cell? ⟨gb679, 2, none⟩ = some (.int .i64 a1_2) := (blk_cell BK679.out 2).trans rfl; have hcz29_3 : w28.cell? ⟨gb679, 3, none⟩ = some (.int .i64 a1_3) := (blk_cell BK679.out 3).trans rfl; have hfz29_0 := blk_frozen BK679.out 0; have hfz29_1 := blk_frozen BK679.out 1; have hfz29_2 := blk_frozen BK679.out 2; have hfz29_3 := blk_frozen BK679.out 3))
        repeat (go_quiet (first | (go_at_call 85; (with_reducible refine (impl_BarLong.calls a0_0 a0_1 t686 _ A25.out).mono ?_); rintro e w28 ⟨rfl, hb⟩; have n0_ := Aside0.mk (Kd.R_below (by (with_reducible repeat (first | apply Kd.R_alloc | apply Kd.R_drewN | apply Kd.R_drew)); exact HO_5.out) hb); have n1_ := Aside0.mk (blk_below (g := gb678) (o := .cells #[.int .i64 a0_0, .int .i64 a0_1] 59 (0, 0)) (by (with_reducible repeat (first | refine blk_drewN ?_ _ | refine blk_drew ?_ | refine blk_alloc ?_ _)); exact BK678.out) hb); have n2_ := Aside0.mk (blk_below (g := gb679) (o := .cells #[.int .i64 a1_0, .int .i64 a1_1, .int .i64 a1_2, .int .i64 a1_3] 61 (0, 0)) (by (with_reducible repeat (first | refine blk_drewN ?_ _ | refine blk_drew ?_ | refine blk_alloc ?_ _)); exact BK679.out) hb); have n3_ := Aside0.mk (below_step (by repeat (first | (with_reducible first | exact HB.out | apply below_alloc | apply pw_below_drewN | apply below_drew1 | refine below_set ?_ GE678.out | refine below_set ?_ GE679.out) | exact HB.out)) hb); clear HO_5; clear BK678; clear BK679; clear HB; have HO_5 := n0_; have BK678 := n1_; have BK679 := n2_; have HB := n3_; clear n0_ n1_ n2_ n3_; (try clear hb); (try clear hb2); (try clear hk); (try clear hi); have hcz29_0 : w28.cell? ⟨gb679, 0, none⟩ = some (.int .i64 a1_0) := (blk_cell BK679.out 0).trans rfl; have hcz29_1 : w28.cell? ⟨gb679, 1, none⟩ = some (.int .i64 a1_1) := (blk_cell BK679.out 1).trans rfl; have hcz29_2 : w28.cell? ⟨gb679, 2, none⟩ = some (.int .i64 a1_2) := (blk_cell BK679.out 2).trans rfl; have hcz29_3 : w28.cell? ⟨gb679, 3, none⟩ = some (.int .i64 a1_3) := (blk_cell BK679.out 3).trans rfl; have hfz29_0 := blk_frozen BK679.out 0; have hfz29_1 := blk_frozen BK679.out 1; have hfz29_2 := blk_frozen BK679.out 2; have hfz29_3 := blk_frozen BK679.out 3)); try go_wp2_with (first | (go_at_call 85; (with_reducible refine (impl_BarLong.calls a0_0 a0_1 t686 _ A25.out).mono ?_); rintro e w28 ⟨rfl, hb⟩; have n0_ := Aside0.mk (Kd.R_below (by (with_reducible repeat (first | apply Kd.R_alloc | apply Kd.R_drewN | apply Kd.R_drew)); exact HO_5.out) hb); have n1_ := Aside0.mk (blk_below (g := gb678) (o := .cells #[.int .i64 a0_0, .int .i64 a0_1] 59 (0, 0)) (by (with_reducible repeat (first | refine blk_drewN ?_ _ | refine blk_drew ?_ | refine blk_alloc ?_ _)); exact BK678.out) hb); have n2_ := Aside0.mk (blk_below (g := gb679) (o := .cells #[.int .i64 a1_0, .int .i64 a1_1, .int .i64 a1_2, .int .i64 a1_3] 61 (0, 0)) (by (with_reducible repeat (first | refine blk_drewN ?_ _ | refine blk_drew ?_ | refine blk_alloc ?_ _)); exact BK679.out) hb); have n3_ := Aside0.mk (below_step (by repeat (first | (with_reducible first | exact HB.out | apply below_alloc | apply pw_below_drewN | apply below_drew1 | refine below_set ?_ GE678.out | refine below_set ?_ GE679.out) | exact HB.out)) hb); clear HO_5; clear BK678; clear BK679; clear HB; have HO_5 := n0_; have BK678 := n1_; have BK679 := n2_; have HB := n3_; clear n0_ n1_ n2_ n3_; (try clear hb); (try clear hb2); (try clear hk); (try clear hi); have hcz29_0 : w28.cell? ⟨gb679, 0, none⟩ = some (.int .i64 a1_0) := (blk_cell BK679.out 0).trans rfl; have hcz29_1 : w28.cell? ⟨gb679, 1, none⟩ = some (.int .i64 a1_1) := (blk_cell BK679.out 1).trans rfl; have hcz29_2 : w28.cell? ⟨gb679, 2, none⟩ = some (.int .i64 a1_2) := (blk_cell BK679.out 2).trans rfl; have hcz29_3 : w28.cell? ⟨gb679, 3, none⟩ = some (.int .i64 a1_3) := (blk_cell BK679.out 3).trans rfl; have hfz29_0 := blk_frozen BK679.out 0; have hfz29_1 := blk_frozen BK679.out 1; have hfz29_2 := blk_frozen BK679.out 2; have hfz29_3 := blk_frozen BK679.out 3)))
        go_loopg [5, 7] kj2 (fun kq v5 v7 w' => ∃ (x5_2 : List (S97)) (x7_2 : Int), v7 = .int .i64 x7_2 ∧ Aside0 (impl_PiecesOf.l0 kq x5_2 t686 x7_2 (wrap64 (a1_0 + a1_1)) = some r) ∧ Aside0 (kq ≤ kj2) ∧ Aside0 (Kd.R k97 97 w' w.heap.size (fun _ => True) v5 x5_2) ∧ Aside0 (w'.heap[gb678]? = some (.cells #[.int .i64 a0_0, .int .i64 a0_1] 59 (0, 0))) ∧ Aside0 (w'.heap[gb679]? = some (.cells #[.int .i64 a1_0, .int .i64 a1_1, .int .i64 a1_2, .int .i64 a1_3] 61 (0, 0))) ∧ Aside0 (Below w.heap.size w w'))
        case atStart => exact ⟨(y680), (a1_0), (by first | rfl | (simp; done) | (simp [*]; done)), H', ⟨Nat.le_refl _⟩, ⟨by (with_reducible repeat (first | apply Kd.R_alloc | apply Kd.R_drewN | apply Kd.R_drew)); exact HO_5.out⟩, ⟨by (with_reducible repeat (first | refine blk_drewN ?_ _ | refine blk_drew ?_ | refine blk_alloc ?_ _)); exact BK678.out⟩, ⟨by (with_reducible repeat (first | refine blk_drewN ?_ _ | refine blk_drew ?_ | refine blk_alloc ?_ _)); exact BK679.out⟩, ⟨by repeat (first | (with_reducible first | exact HB.out | apply below_alloc | apply pw_below_drewN | apply below_drew1 | refine below_set ?_ GE678.out | refine below_set ?_ GE679.out) | exact HB.out)⟩⟩
        case round =>
          clear H'
          try clear c1
          try clear c2
          try clear p2
          try clear c5
          try clear p6
          try clear c9
          try clear c11
          try clear c13
          try clear c17
          try clear c21
          try clear c24
          try clear c26
          try clear hcz14_0
          try clear hcz14_1
          try clear hcz16_0
          try clear hcz16_1
          try clear hcz16_2
          try clear hcz16_3
          try clear hcz18_0
          try clear hcz18_1
          try clear hcz20_0
          try clear hcz20_1
          try clear hcz20_2
          try clear hcz20_3
          try clear hcz22_0
          try clear hcz22_1
          try clear hcz27_0
          try clear hcz27_1
          try clear hcz29_0
          try clear hcz29_1
          try clear hcz29_2
          try clear hcz29_3
          try clear hfz14_0
          try clear hfz14_1
          try clear hfz16_0
          try clear hfz16_1
          try clear hfz16_2
          try clear hfz16_3
          try clear hfz18_0
          try clear hfz18_1
          try clear hfz20_0
          try clear hfz20_1
          try clear hfz20_2
          try clear hfz20_3
          try clear hfz22_0
          try clear hfz22_1
          try clear hfz27_0
          try clear hfz27_1
          try clear hfz29_0
          try clear hfz29_1
          try clear hfz29_2
          try clear hfz29_3
          try clear p2
          obtain ⟨x5_2, x7_2, rfl, HA, HK2, HO_5, BK678, BK679, HB⟩ := hrel
          cases gk with
          | zero => exact absurd HA.out (by simp [impl_PiecesOf.l0])
          | succ k2 =>
            have H := HA.out
            clear HA
            simp only [impl_PiecesOf.l0] at H
            by_cases c30 : x7_2 < (wrap64 (a1_0 + a1_1))
            · rw [if_pos c30] at H
              have c30b0 : decide (x7_2 < (wrap64 (a1_0 + a1_1))) = true := decide_eq_true c30
              clear c30
              by_cases c31 : t686 = 0
              · rw [if_pos c31] at H
                exact absurd H (by simp)
              · rw [if_neg c31] at H
                have c31b0 : (t686 == 0) = false := beq_eq_false_iff_ne.mpr c31
                have c31b1 : (t686 != 0) = true := bne_iff_ne.mpr c31
                obtain ⟨ji32, hji32⟩ : ∃ j_ : Int, (mn (wrap64 ((wrap64 (x7_2 - (Int.tmod x7_2 t686))) + t686)) (wrap64 (a1_0 + a1_1))) = j_ := ⟨_, rfl⟩
                replace H : (if x5_2.length < 5864062014805 then (impl_PiecesOf.l0 k2 (x5_2 ++ [(⟨x7_2, wrap64 ((ji32) - x7_2), decide ((ji32) < (wrap64 (a1_0 + a1_1)))⟩ : S97)]) t686 ji32 (wrap64 (a1_0 + a1_1))) else (none)) = some r := by first | (rw [hji32] at H; exact H) | (simp only [hji32] at H ⊢; exact H)
                have hji32_ : (if (wrap64 (a1_0 + a1_1)) < (wrap64 ((wrap64 (x7_2 - (Int.tmod x7_2 t686))) + t686)) then (wrap64 (a1_0 + a1_1)) else (wrap64 ((wrap64 (x7_2 - (Int.tmod x7_2 t686))) + t686))) = ji32 := hji32
                by_cases c33 : x5_2.length < 5864062014805
                · rw [if_pos c33] at H
                  have LMc33 := Aside0.mk c33
                  clear c33
                  obtain ⟨y687, hy687⟩ : ∃ y_ : List (S97), y_ = (x5_2 ++ [(⟨x7_2, wrap64 ((ji32) - x7_2), decide ((ji32) < (wrap64 (a1_0 + a1_1)))⟩ : S97)]) := ⟨_, rfl⟩
                  replace H : (impl_PiecesOf.l0 k2 y687 t686 ji32 (wrap64 (a1_0 + a1_1))) = some r := by first | (rw [hy687]; with_reducible exact H) | (have H2_ := (Option.bind_some _ _).symm.trans H; rw [hy687]; with_reducible exact H2_) | (have H2_ := (Option.bind_some _ _).symm.trans H; with_reducible exact H2_) | with_reducible exact H | (rw [hy687]; exact H) | exact H
                  have Ny687 := Aside0.mk hy687
                  clear hy687
                  have H' := Aside0.mk H
                  clear H
                  go_wp2_with (first | ((with_reducible refine gate_builtin (b := .append) (xs := #[.tmp 48, .tmp 57]) rfl ?_); at_builtin; refine Kd.R_append k97 (w0 := w) w.heap.size rfl (.tmp 48) (.tmp 57) 57 97 (.agg #[(.int .i64 0), (.int .i64 0), (.bool false)]) 24 rfl Try.underlying57 info97 rfl (by decide) (by omega) u5 x5_2 (⟨x7_2, wrap64 ((ji32) - x7_2), decide ((ji32) < (wrap64 (a1_0 + a1_1)))⟩ : S97) [.int .i64 x7_2, .int .i64 (wrap64 ((ji32) - x7_2)), .bool (decide ((ji32) < (wrap64 (a1_0 + a1_1))))] (fun _ => True) (fun _ => False) rfl rfl ?aP (fun _ hk => hk.elim) ?aF ?aO ?aB ?aS ?aL ?_; (case aP => exact k97_mkM _ _ _ (⟨x7_2, wrap64 ((ji32) - x7_2), decide ((ji32) < (wrap64 (a1_0 + a1_1)))⟩ : S97)); (case aB => exact (by repeat (first | (with_reducible first | exact HB.out | apply below_alloc | apply pw_below_drewN | apply below_drew1 | refine below_set ?_ GE678.out | refine below_set ?_ GE679.out) | exact HB.out))); (case aF => exact (fun _ _ => trivial)); (case aO => exact (by (with_reducible repeat (first | apply Kd.R_alloc | apply Kd.R_drewN | apply Kd.R_drew)); exact HO_5.out)); (case aS => exact (below_size (by repeat (first | (with_reducible first | exact HB.out | apply below_alloc | apply pw_below_drewN | apply below_drew1 | refine below_set ?_ GE678.out | refine below_set ?_ GE679.out) | exact HB.out)))); (case aL => have := LMc33.out; omega); intro v688 w34 ho hb hg hat; rw [← Ny687.out] at ho; have n0_ := Aside0.mk (blk_grown (g := gb678) (o := .cells #[.int .i64 a0_0, .int .i64 a0_1] 59 (0, 0)) (by (with_reducible repeat (first | refine blk_drewN ?_ _ | refine blk_drew ?_ | refine blk_alloc ?_ _)); exact BK678.out) hg (Kd.R_ne HO_5.out BK678.out (by decide))); have n1_ := Aside0.mk (blk_grown (g := gb679) (o := .cells #[.int .i64 a1_0, .int .i64 a1_1, .int .i64 a1_2, .int .i64 a1_3] 61 (0, 0)) (by (with_reducible repeat (first | refine blk_drewN ?_ _ | refine blk_drew ?_ | refine blk_alloc ?_ _)); exact BK679.out) hg (Kd.R_ne HO_5.out BK679.out (by decide))); have n2_ := Aside0.mk (hb); have n3_ := Aside0.mk (ho); clear BK678; clear BK679; clear HB; clear HO_5; have BK678 := n0_; have BK679 := n1_; have HB := n2_; have HO689 := n3_; clear n0_ n1_ n2_ n3_; clear ho hb hg hat))
                  repeat (go_quiet (first | ((with_reducible refine gate_builtin (b := .append) (xs := #[.tmp 48, .tmp 57]) rfl ?_); at_builtin; refine Kd.R_append k97 (w0 := w) w.heap.size rfl (.tmp 48) (.tmp 57) 57 97 (.agg #[(.int .i64 0), (.int .i64 0), (.bool false)]) 24 rfl Try.underlying57 info97 rfl (by decide) (by omega) u5 x5_2 (⟨x7_2, wrap64 ((ji32) - x7_2), decide ((ji32) < (wrap64 (a1_0 + a1_1)))⟩ : S97) [.int .i64 x7_2, .int .i64 (wrap64 ((ji32) - x7_2)), .bool (decide ((ji32) < (wrap64 (a1_0 + a1_1))))] (fun _ => True) (fun _ => False) rfl rfl ?aP (fun _ hk => hk.elim) ?aF ?aO ?aB ?aS ?aL ?_; (case aP => exact k97_mkM _ _ _ (⟨x7_2, wrap64 ((ji32) - x7_2), decide ((ji32) < (wrap64 (a1_0 + a1_1)))⟩ : S97)); (case aB => exact (by repeat (first | (with_reducible first | exact HB.out | apply below_alloc | apply pw_below_drewN | apply below_drew1 | refine below_set ?_ GE678.out | refine below_set ?_ GE679.out) | exact HB.out))); (case aF => exact (fun _ _ => trivial)); (case aO => exact (by (with_reducible repeat (first | apply Kd.R_alloc | apply Kd.R_drewN | apply Kd.R_drew)); exact HO_5.out)); (case aS => exact (below_size (by repeat (first | (with_reducible first | exact HB.out | apply below_alloc | apply pw_below_drewN | apply below_drew1 | refine below_set ?_ GE678.out | refine below_set ?_ GE679.out) | exact HB.out)))); (case aL => have := LMc33.out; omega); intro v688 w34 ho hb hg hat; rw [← Ny687.out] at ho; have n0_ := Aside0.mk (blk_grown (g := gb678) (o := .cells #[.int .i64 a0_0, .int .i64 a0_1] 59 (0, 0)) (by (with_reducible repeat (first | refine blk_drewN ?_ _ | refine blk_drew ?_ | refine blk_alloc ?_ _)); exact BK678.out) hg (Kd.R_ne HO_5.out BK678.out (by decide))); have n1_ := Aside0.mk (blk_grown (g := gb679) (o := .cells #[.int .i64 a1_0, .int .i64 a1_1, .int .i64 a1_2, .int .i64 a1_3] 61 (0, 0)) (by (with_reducible repeat (first | refine blk_drewN ?_ _ | refine blk_drew ?_ | refine blk_alloc ?_ _)); exact BK679.out) hg (Kd.R_ne HO_5.out BK679.out (by decide))); have n2_ := Aside0.mk (hb); have n3_ := Aside0.mk (ho); clear BK678; clear BK679; clear HB; clear HO_5; have BK678 := n0_; have BK679 := n1_; have HB := n2_; have HO689 := n3_; clear n0_ n1_ n2_ n3_; clear ho hb hg hat)); try go_wp2_with (first | ((with_reducible refine gate_builtin (b := .append) (xs := #[.tmp 48, .tmp 57]) rfl ?_); at_builtin; refine Kd.R_append k97 (w0 := w) w.heap.size rfl (.tmp 48) (.tmp 57) 57 97 (.agg #[(.int .i64 0), (.int .i64 0), (.bool false)]) 24 rfl Try.underlying57 info97 rfl (by decide) (by omega) u5 x5_2 (⟨x7_2, wrap64 ((ji32) - x7_2), decide ((ji32) < (wrap64 (a1_0 + a1_1)))⟩ : S97) [.int .i64 x7_2, .int .i64 (wrap64 ((ji32) - x7_2)), .bool (decide ((ji32) < (wrap64 (a1_0 + a1_1))))] (fun _ => True) (fun _ => False) rfl rfl ?aP (fun _ hk => hk.elim) ?aF ?aO ?aB ?aS ?aL ?_; (case aP => exact k97_mkM _ _ _ (⟨x7_2, wrap64 ((ji32) - x7_2), decide ((ji32) < (wrap64 (a1_0 + a1_1)))⟩ : S97)); (case aB => exact (by repeat (first | (with_reducible first | exact HB.out | apply below_alloc | apply pw_below_drewN | apply below_drew1 | refine below_set ?_ GE678.out | refine below_set ?_ GE679.out) | exact HB.out))); (case aF => exact (fun _ _ => trivial)); (case aO => exact (by (with_reducible repeat (first | apply Kd.R_alloc | apply Kd.R_drewN | apply Kd.R_drew)); exact HO_5.out)); (case aS => exact (below_size (by repeat (first | (with_reducible first | exact HB.out | apply below_alloc | apply pw_below_drewN | apply below_drew1 | refine below_set ?_ GE678.out | refine below_set ?_ GE679.out) | exact HB.out)))); (case aL => have := LMc33.out; omega); intro v688 w34 ho hb hg hat; rw [← Ny687.out] at ho; have n0_ := Aside0.mk (blk_grown (g := gb678) (o := .cells #[.int .i64 a0_0, .int .i64 a0_1] 59 (0, 0)) (by (with_reducible repeat (first | refine blk_drewN ?_ _ | refine blk_drew ?_ | refine blk_alloc ?_ _)); exact BK678.out) hg (Kd.R_ne HO_5.out BK678.out (by decide))); have n1_ := Aside0.mk (blk_grown (g := gb679) (o := .cells #[.int .i64 a1_0, .int .i64 a1_1, .int .i64 a1_2, .int .i64 a1_3] 61 (0, 0)) (by (with_reducible repeat (first | refine blk_drewN ?_ _ | refine blk_drew ?_ | refine blk_alloc ?_ _)); exact BK679.out) hg (Kd.R_ne HO_5.out BK679.out (by decide))); have n2_ := Aside0.mk (hb); have n3_ := Aside0.mk (ho); clear BK678; clear BK679; clear HB; clear HO_5; have BK678 := n0_; have BK679 := n1_; have HB := n2_; have HO689 := n3_; clear n0_ n1_ n2_ n3_; clear ho hb hg hat)))
                  go_roundg k2
                  case measure => have := HJ2.out; have := HK2.out; omega
                  case rel => exact ⟨(y687), (ji32), (by first | rfl | (simp; done) | (simp only [← hji32] <;> (first | rfl | simp)) | (simp [*]; done)), H', ⟨by have := HJ2.out; have := HK2.out; omega⟩, ⟨by (with_reducible repeat (first | apply Kd.R_alloc | apply Kd.R_drewN | apply Kd.R_drew)); exact HO689.out⟩, ⟨by (with_reducible repeat (first | refine blk_drewN ?_ _ | refine blk_drew ?_ | refine blk_alloc ?_ _)); exact BK678.out⟩, ⟨by (with_reducible repeat (first | refine blk_drewN ?_ _ | refine blk_drew ?_ | refine blk_alloc ?_ _)); exact BK679.out⟩, ⟨by repeat (first | (with_reducible first | exact HB.out | apply below_alloc | apply pw_below_drewN | apply below_drew1 | refine below_set ?_ GE678.out | refine below_set ?_ GE679.out) | exact HB.out)⟩⟩
                · rw [if_neg c33] at H
                  exact absurd H (by simp)
            · rw [if_neg c30] at H
              have c30b0 : decide (x7_2 < (wrap64 (a1_0 + a1_1))) = false := decide_eq_false c30
              clear c30
              obtain rfl := Option.some.inj H
              go_wp2
              repeat (go_quiet (fail); try go_wp2)
              go_ret
              exact ⟨_, by first | rfl | (simp [errW_none, errW_some] <;> rfl) | (simp [*, errW_none, errW_some] <;> rfl), by (with_reducible repeat (first | apply Kd.R_alloc | apply Kd.R_drewN | apply Kd.R_drew)); exact HO_5.out, by repeat (first | (with_reducible first | exact HB.out | apply below_alloc | apply pw_below_drewN | apply below_drew1 | refine below_set ?_ GE678.out | refine below_set ?_ GE679.out) | exact HB.out)⟩

end Go.Proofs.Ytinbdgngpkbgcaa.F
