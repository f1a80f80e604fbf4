-- Written for this claim by the kit's print.py out of the translation, called by wip/tools/fprint.py. Lean checks it.
import Derived.Test.YtiophiipmgpaeaaF0
import Derived.Test.YtiophiipmgpaeaaF2
namespace Go.Proofs.Ytiophiipmgpaeaa.F
open Go.RowKit Go.Proofs.YtiophiipmgpaeaaW.PrintWords Go.Proofs.YtiophiipmgpaeaaW.PrintLast Go.Proofs.YtiophiipmgpaeaaW.PrintMore
attribute [local go_sem] max2_int min2_int max_two min_two max_three min_three max_four min_four   -- for this text's walks alone
set_option linter.unusedVariables false
set_option linter.unusedSimpArgs false

/-! ### spec_IsForm: function 123 -/
mutual
def spec_IsForm.l0 : Nat → List (S154) → Int → Int → Option (Bool)
  | 0, _, _, _ => none
  | k + 1, x0, x3, x4 => if x4 < (x0.length : Int) then (spec_IsForm.j1 k x0 x3 x4 (decide ((x0.length : Int) ≤ 10))) else (spec_IsForm.j1 k x0 x3 x4 false)
def spec_IsForm.j1 : Nat → List (S154) → Int → Int → Bool → Option (Bool)
  | 0, _, _, _, _ => none
  | k + 1, x0, x3, x4, x14 => if x14 = true then (if 0 ≤ x4 then (if x4 < (x0.length : Int) then (if ((rd_T154 x0 x4).f0) < 1 then (some false) else (if ((rd_T154 x0 x4).f0) > ((rd_T154 x0 x4).f1) then (some false) else (if ((rd_T154 x0 x4).f1) > 100 then (some false) else ((spec_l1In.f ((rd_T154 x0 x4).f2) 1 4).bind fun t1217 => (if t1217 = true then (spec_IsForm.l0 k x0 (wrap64 (x3 + (wrap64 ((wrap64 ((wrap64 (((rd_T154 x0 x4).f1) - ((rd_T154 x0 x4).f0))) + 1)) * ((rd_T154 x0 x4).f2))))) (wrap64 (x4 + 1))) else (some false)))))) else (none)) else (none)) else (if (x0.length : Int) ≤ 10 then (some (decide (x3 ≤ 200))) else (some false))
end
def spec_IsForm.f (k : Nat) (l0 : List (S154)) : Option (Bool) := spec_IsForm.l0 k l0 0 0
theorem spec_IsForm.mono_l : ∀ k, (∀ y0 y1 y2, LeO (spec_IsForm.l0 k y0 y1 y2) (spec_IsForm.l0 (k + 1) y0 y1 y2)) ∧ (∀ y0 y1 y2 y3, LeO (spec_IsForm.j1 k y0 y1 y2 y3) (spec_IsForm.j1 (k + 1) y0 y1 y2 y3))
  | 0 => ⟨fun _ _ _ r h => by simp [spec_IsForm.l0] at h, fun _ _ _ _ r h => by simp [spec_IsForm.j1] at h⟩
  | k + 1 => by
    obtain ⟨ih0, ih1⟩ := spec_IsForm.mono_l k
    refine ⟨?_, ?_⟩
    · intro y0 y1 y2
      unfold spec_IsForm.l0
      repeat' first
      | (with_reducible exact ih0 _ _ _)
      | (with_reducible exact ih1 _ _ _ _)
      | (with_reducible exact LeO.refl _)
      | (with_reducible exact LeO.none _)
      | (with_reducible refine LeO.ite ?_ ?_)
      | (with_reducible refine LeO.bind ?_ (fun _ => ?_))
      | exact ih0 _ _ _
      | exact ih1 _ _ _ _
      | exact LeO.none _
      | refine LeO.ite ?_ ?_
      | refine LeO.bind ?_ (fun _ => ?_)
    · intro y0 y1 y2 y3
      unfold spec_IsForm.j1
      repeat' first
      | (with_reducible exact ih0 _ _ _)
      | (with_reducible exact ih1 _ _ _ _)
      | (with_reducible exact LeO.refl _)
      | (with_reducible exact LeO.none _)
      | (with_reducible refine LeO.ite ?_ ?_)
      | (with_reducible refine LeO.bind ?_ (fun _ => ?_))
      | exact ih0 _ _ _
      | exact ih1 _ _ _ _
      | exact LeO.none _
      | refine LeO.ite ?_ ?_
      | refine LeO.bind ?_ (fun _ => ?_)
theorem spec_IsForm.mono : ∀ a0 k, LeO (spec_IsForm.f k a0) (spec_IsForm.f (k + 1) a0) := by
  intro a0 k
  obtain ⟨ih0, ih1⟩ := spec_IsForm.mono_l k
  unfold spec_IsForm.f
  repeat' first
      | (with_reducible exact ih0 _ _ _)
      | (with_reducible exact ih1 _ _ _ _)
      | (with_reducible exact LeO.refl _)
      | (with_reducible exact LeO.none _)
      | (with_reducible refine LeO.ite ?_ ?_)
      | (with_reducible refine LeO.bind ?_ (fun _ => ?_))
      | exact ih0 _ _ _
      | exact ih1 _ _ _ _
      | exact LeO.none _
      | refine LeO.ite ?_ ?_
      | refine LeO.bind ?_ (fun _ => ?_)
set_option maxHeartbeats 8000000 in
set_option maxRecDepth 100000 in
theorem spec_IsForm.calls (k : Nat) (A0 : Option Addr) (c0 : Nat) (l0 : List (S154)) (r : Bool) (w : World) (hr0 : Kd.C k154 w A0 l0.length l0) (hc0 : l0.length ≤ c0) (h : spec_IsForm.f k l0 = some r) :
    Calls Try.prog 123 #[.slice A0 l0.length c0] w fun e w' => e = .returned (.bool r) ∧ Below w.heap.size w w' := by
  have hu154 := Try.underlying154
  have HR0 := Aside0.mk hr0
  have HC0 := Aside0.mk hc0
  clear hr0 hc0
  have HB := Aside0.mk (Below.refl w.heap.size w)
  have H : (spec_IsForm.l0 k l0 0 0) = some r := h
  clear h
  have H' := Aside0.mk H
  clear H
  go_enter Try.func123, Try.ntmps123
  go_wp2
  go_loopg [3, 4] k (fun kq v3 v4 w' => ∃ (x3_1 : Int) (x4_1 : Int), v3 = .int .i64 x3_1 ∧ v4 = .int .i64 x4_1 ∧ Aside0 (spec_IsForm.l0 kq l0 x3_1 x4_1 = some r) ∧ Aside0 (kq ≤ k) ∧ Aside0 (Below w.heap.size w w'))
  case atStart => exact ⟨(0), (0), (by first | rfl | (simp; done) | (simp [*]; done)), (by first | rfl | (simp; done) | (simp [*]; done)), H', ⟨Nat.le_refl _⟩, ⟨by repeat (first | (with_reducible first | exact HB.out | apply below_alloc | apply pw_below_drewN | apply below_drew1) | exact HB.out)⟩⟩
  case round =>
    clear H'
    try clear c1
    obtain ⟨x3_1, x4_1, rfl, rfl, HA, HK1, HB⟩ := hrel
    cases gk with
    | zero => exact absurd HA.out (by simp [spec_IsForm.l0])
    | succ k1 =>
      have H := HA.out
      clear HA
      simp only [spec_IsForm.l0] at H
      have HC2 := Aside0.mk H
      clear H
      go_upto_region 3 with (fail)
      go_cut [14] (fun v14 wc => ∃ (kq : Nat) (x14_1 : Bool), v14 = .bool x14_1 ∧ Aside0 (spec_IsForm.j1 kq l0 x3_1 x4_1 x14_1 = some r) ∧ Aside0 (kq ≤ k1) ∧ Aside0 (Below w.heap.size w wc))
      case first =>
        have H := HC2.out
        clear HC2
        by_cases c3 : x4_1 < (l0.length : Int)
        · rw [if_pos c3] at H
          have c3b0 : decide (x4_1 < (l0.length : Int)) = true := decide_eq_true c3
          clear c3
          (first | rw [c3b0] | (simp only [i64_w, i32_w]; rw [c3b0]) | skip)
          have H' := Aside0.mk H
          clear H
          go_wp2
          go_meet
          case rel => exact ⟨_, (decide ((l0.length : Int) ≤ 10)), (by first | rfl | (simp; done) | (simp [*]; done)), H', ⟨by have := HK1.out; first | omega | exact Nat.le_refl _⟩, ⟨by repeat (first | (with_reducible first | exact HB.out | apply below_alloc | apply pw_below_drewN | apply below_drew1) | exact HB.out)⟩⟩
        · rw [if_neg c3] at H
          have c3b0 : decide (x4_1 < (l0.length : Int)) = false := decide_eq_false c3
          clear c3
          (first | rw [c3b0] | (simp only [i64_w, i32_w]; rw [c3b0]) | skip)
          have H' := Aside0.mk H
          clear H
          go_wp2
          go_meet
          case rel => exact ⟨_, (false), (by first | rfl | (simp; done) | (simp [*]; done)), H', ⟨by have := HK1.out; first | omega | exact Nat.le_refl _⟩, ⟨by repeat (first | (with_reducible first | exact HB.out | apply below_alloc | apply pw_below_drewN | apply below_drew1) | exact HB.out)⟩⟩
      case rest =>
        clear HC2
        try clear c1
        try clear p2
        try clear c3
        try clear c3b0
        obtain ⟨kq, x14_1, rfl, HA, HJ1, HB⟩ := hcut
        cases kq with
        | zero => exact absurd HA.out (by simp [spec_IsForm.j1])
        | succ kj1 =>
          have H := HA.out
          clear HA
          simp only [spec_IsForm.j1] at H
          by_cases c4 : x14_1 = true
          · subst c4
            have H1 : (if 0 ≤ x4_1 then (if x4_1 < (l0.length : Int) then (if ((rd_T154 l0 x4_1).f0) < 1 then (some false) else (if ((rd_T154 l0 x4_1).f0) > ((rd_T154 l0 x4_1).f1) then (some false) else (if ((rd_T154 l0 x4_1).f1) > 100 then (some false) else ((spec_l1In.f ((rd_T154 l0 x4_1).f2) 1 4).bind fun t1217 => (if t1217 = true then (spec_IsForm.l0 kj1 l0 (wrap64 (x3_1 + (wrap64 ((wrap64 ((wrap64 (((rd_T154 l0 x4_1).f1) - ((rd_T154 l0 x4_1).f0))) + 1)) * ((rd_T154 l0 x4_1).f2))))) (wrap64 (x4_1 + 1))) else (some false)))))) else (none)) else (none)) = some r := by rw [if_pos rfl] at H; exact H
            clear H
            have H := H1
            clear H1
            by_cases c5 : 0 ≤ x4_1
            · rw [if_pos c5] at H
              have c5b0 : decide (0 ≤ x4_1) = true := decide_eq_true c5
              clear c5
              by_cases c6 : x4_1 < (l0.length : Int)
              · rw [if_pos c6] at H
                have c6b0 : decide (x4_1 < (l0.length : Int)) = true := decide_eq_true c6
                clear c6
                by_cases c7 : ((rd_T154 l0 x4_1).f0) < 1
                · rw [if_pos c7] at H
                  have c7b0 : decide (((rd_T154 l0 x4_1).f0) < 1) = true := decide_eq_true c7
                  clear c7
                  obtain rfl := Option.some.inj H
                  have p1215 : 0 ≤ (x4_1 : Int) := of_decide_eq_true (by first | (with_reducible assumption) | assumption)
                  have q1215 : x4_1 < (l0.length : Int) := of_decide_eq_true (by first | (with_reducible assumption) | assumption)
                  obtain ⟨ad1215, e1215, hx1215_0, hx1215_1, hx1215_2⟩ := at_T154 HR0.out x4_1 p1215 q1215
                  cases e1215
                  replace hx1215_0 := (HB.out.cell (World.block_lt_of_cell? w _ hx1215_0)).trans hx1215_0
                  replace hx1215_1 := (HB.out.cell (World.block_lt_of_cell? w _ hx1215_1)).trans hx1215_1
                  replace hx1215_2 := (HB.out.cell (World.block_lt_of_cell? w _ hx1215_2)).trans hx1215_2
                  replace p1215 := eq_true p1215
                  replace q1215 := eq_true q1215
                  go_wp2_with (first | ((with_reducible refine gate_dst (N := 5) rfl ?_); (try (refine gate_guard (by rfl) ?_; dsimp only)); refine box_event ?hg (N := 5) ?hd (cs := #[.int .i64 0, .int .i64 0, .int .i64 0]) (t := 154) ?hr ?_; (case hd => rfl); (case hg => rfl); (case hr => first | (go_simp; done) | (go_simp; rfl)); intro gb1216 hg w8 hbox hb; have n0_ := Aside0.mk (below_step (by repeat (first | (with_reducible first | exact HB.out | apply below_alloc | apply pw_below_drewN | apply below_drew1) | exact HB.out)) hb); have n1_ := Aside0.mk (hbox); have n2_ := Aside0.mk ((by rw [hg]; exact (below_size (by repeat (first | (with_reducible first | exact HB.out | apply below_alloc | apply pw_below_drewN | apply below_drew1) | exact HB.out))) : w.heap.size ≤ gb1216)); have n3_ := Aside0.mk ((by rw [hg]; exact (below_size (by repeat (first | (with_reducible first | exact HB.out | apply below_alloc | apply pw_below_drewN | apply below_drew1) | exact HB.out))) : w.heap.size ≤ gb1216)); clear HB; have HB := n0_; have BK1216 := n1_; have GW1216 := n2_; have GE1216 := n3_; clear n0_ n1_ n2_ n3_; clear hb hbox hg; have hcz9_0 : w8.cell? ⟨gb1216, 0, none⟩ = some (.int .i64 0) := (blk_cell BK1216.out 0).trans rfl; have hcz9_1 : w8.cell? ⟨gb1216, 1, none⟩ = some (.int .i64 0) := (blk_cell BK1216.out 1).trans rfl; have hcz9_2 : w8.cell? ⟨gb1216, 2, none⟩ = some (.int .i64 0) := (blk_cell BK1216.out 2).trans rfl; have hfz9_0 := blk_frozen BK1216.out 0; have hfz9_1 := blk_frozen BK1216.out 1; have hfz9_2 := blk_frozen BK1216.out 2))
                  go_ret
                  exact ⟨by first | rfl | (simp [errW_none, errW_some] <;> rfl) | (simp [*, errW_none, errW_some] <;> rfl), by repeat (first | (with_reducible first | exact HB.out | apply below_alloc | apply pw_below_drewN | apply below_drew1 | refine below_set ?_ GE1216.out) | exact HB.out)⟩
                · rw [if_neg c7] at H
                  have c7b0 : decide (((rd_T154 l0 x4_1).f0) < 1) = false := decide_eq_false c7
                  clear c7
                  by_cases c10 : ((rd_T154 l0 x4_1).f0) > ((rd_T154 l0 x4_1).f1)
                  · rw [if_pos c10] at H
                    have c10b0 : decide (((rd_T154 l0 x4_1).f1) < ((rd_T154 l0 x4_1).f0)) = true := decide_eq_true c10
                    clear c10
                    obtain rfl := Option.some.inj H
                    have p1215 : 0 ≤ (x4_1 : Int) := of_decide_eq_true (by first | (with_reducible assumption) | assumption)
                    have q1215 : x4_1 < (l0.length : Int) := of_decide_eq_true (by first | (with_reducible assumption) | assumption)
                    obtain ⟨ad1215, e1215, hx1215_0, hx1215_1, hx1215_2⟩ := at_T154 HR0.out x4_1 p1215 q1215
                    cases e1215
                    replace hx1215_0 := (HB.out.cell (World.block_lt_of_cell? w _ hx1215_0)).trans hx1215_0
                    replace hx1215_1 := (HB.out.cell (World.block_lt_of_cell? w _ hx1215_1)).trans hx1215_1
                    replace hx1215_2 := (HB.out.cell (World.block_lt_of_cell? w _ hx1215_2)).trans hx1215_2
                    replace p1215 := eq_true p1215
                    replace q1215 := eq_true q1215
                    go_wp2_with (first | ((with_reducible refine gate_dst (N := 5) rfl ?_); (try (refine gate_guard (by rfl) ?_; dsimp only)); refine box_event ?hg (N := 5) ?hd (cs := #[.int .i64 0, .int .i64 0, .int .i64 0]) (t := 154) ?hr ?_; (case hd => rfl); (case hg => rfl); (case hr => first | (go_simp; done) | (go_simp; rfl)); intro gb1216 hg w11 hbox hb; have n0_ := Aside0.mk (below_step (by repeat (first | (with_reducible first | exact HB.out | apply below_alloc | apply pw_below_drewN | apply below_drew1) | exact HB.out)) hb); have n1_ := Aside0.mk (hbox); have n2_ := Aside0.mk ((by rw [hg]; exact (below_size (by repeat (first | (with_reducible first | exact HB.out | apply below_alloc | apply pw_below_drewN | apply below_drew1) | exact HB.out))) : w.heap.size ≤ gb1216)); have n3_ := Aside0.mk ((by rw [hg]; exact (below_size (by repeat (first | (with_reducible first | exact HB.out | apply below_alloc | apply pw_below_drewN | apply below_drew1) | exact HB.out))) : w.heap.size ≤ gb1216)); clear HB; have HB := n0_; have BK1216 := n1_; have GW1216 := n2_; have GE1216 := n3_; clear n0_ n1_ n2_ n3_; clear hb hbox hg; have hcz12_0 : w11.cell? ⟨gb1216, 0, none⟩ = some (.int .i64 0) := (blk_cell BK1216.out 0).trans rfl; have hcz12_1 : w11.cell? ⟨gb1216, 1, none⟩ = some (.int .i64 0) := (blk_cell BK1216.out 1).trans rfl; have hcz12_2 : w11.cell? ⟨gb1216, 2, none⟩ = some (.int .i64 0) := (blk_cell BK1216.out 2).trans rfl; have hfz12_0 := blk_frozen BK1216.out 0; have hfz12_1 := blk_frozen BK1216.out 1; have hfz12_2 := blk_frozen BK1216.out 2))
                    go_ret
                    exact ⟨by first | rfl | (simp [errW_none, errW_some] <;> rfl) | (simp [*, errW_none, errW_some] <;> rfl), by repeat (first | (with_reducible first | exact HB.out | apply below_alloc | apply pw_below_drewN | apply below_drew1 | refine below_set ?_ GE1216.out) | exact HB.out)⟩
                  · rw [if_neg c10] at H
                    have c10b0 : decide (((rd_T154 l0 x4_1).f1) < ((rd_T154 l0 x4_1).f0)) = false := decide_eq_false c10
                    clear c10
                    by_cases c13 : ((rd_T154 l0 x4_1).f1) > 100
                    · rw [if_pos c13] at H
                      have c13b0 : decide (100 < ((rd_T154 l0 x4_1).f1)) = true := decide_eq_true c13
                      clear c13
                      obtain rfl := Option.some.inj H
                      have p1215 : 0 ≤ (x4_1 : Int) := of_decide_eq_true (by first | (with_reducible assumption) | assumption)
                      have q1215 : x4_1 < (l0.length : Int) := of_decide_eq_true (by first | (with_reducible assumption) | assumption)
                      obtain ⟨ad1215, e1215, hx1215_0, hx1215_1, hx1215_2⟩ := at_T154 HR0.out x4_1 p1215 q1215
                      cases e1215
                      replace hx1215_0 := (HB.out.cell (World.block_lt_of_cell? w _ hx1215_0)).trans hx1215_0
                      replace hx1215_1 := (HB.out.cell (World.block_lt_of_cell? w _ hx1215_1)).trans hx1215_1
                      replace hx1215_2 := (HB.out.cell (World.block_lt_of_cell? w _ hx1215_2)).trans hx1215_2
                      replace p1215 := eq_true p1215
                      replace q1215 := eq_true q1215
                      go_wp2_with (first | ((with_reducible refine gate_dst (N := 5) rfl ?_); (try (refine gate_guard (by rfl) ?_; dsimp only)); refine box_event ?hg (N := 5) ?hd (cs := #[.int .i64 0, .int .i64 0, .int .i64 0]) (t := 154) ?hr ?_; (case hd => rfl); (case hg => rfl); (case hr => first | (go_simp; done) | (go_simp; rfl)); intro gb1216 hg w14 hbox hb; have n0_ := Aside0.mk (below_step (by repeat (first | (with_reducible first | exact HB.out | apply below_alloc | apply pw_below_drewN | apply below_drew1) | exact HB.out)) hb); have n1_ := Aside0.mk (hbox); have n2_ := Aside0.mk ((by rw [hg]; exact (below_size (by repeat (first | (with_reducible first | exact HB.out | apply below_alloc | apply pw_below_drewN | apply below_drew1) | exact HB.out))) : w.heap.size ≤ gb1216)); have n3_ := Aside0.mk ((by rw [hg]; exact (below_size (by repeat (first | (with_reducible first | exact HB.out | apply below_alloc | apply pw_below_drewN | apply below_drew1) | exact HB.out))) : w.heap.size ≤ gb1216)); clear HB; have HB := n0_; have BK1216 := n1_; have GW1216 := n2_; have GE1216 := n3_; clear n0_ n1_ n2_ n3_; clear hb hbox hg; have hcz15_0 : w14.cell? ⟨gb1216, 0, none⟩ = some (.int .i64 0) := (blk_cell BK1216.out 0).trans rfl; have hcz15_1 : w14.cell? ⟨gb1216, 1, none⟩ = some (.int .i64 0) := (blk_cell BK1216.out 1).trans rfl; have hcz15_2 : w14.cell? ⟨gb1216, 2, none⟩ = some (.int .i64 0) := (blk_cell BK1216.out 2).trans rfl; have hfz15_0 := blk_frozen BK1216.out 0; have hfz15_1 := blk_frozen BK1216.out 1; have hfz15_2 := blk_frozen BK1216.out 2))
                      go_ret
                      exact ⟨by first | rfl | (simp [errW_none, errW_some] <;> rfl) | (simp [*, errW_none, errW_some] <;> rfl), by repeat (first | (with_reducible first | exact HB.out | apply below_alloc | apply pw_below_drewN | apply below_drew1 | refine below_set ?_ GE1216.out) | exact HB.out)⟩
                    · rw [if_neg c13] at H
                      have c13b0 : decide (100 < ((rd_T154 l0 x4_1).f1)) = false := decide_eq_false c13
                      clear c13
                      replace H := Option.bind_eq_some_iff.mp H
                      obtain ⟨t1217, A160, H⟩ := H
                      replace H : (if t1217 = true then (spec_IsForm.l0 kj1 l0 (wrap64 (x3_1 + (wrap64 ((wrap64 ((wrap64 (((rd_T154 l0 x4_1).f1) - ((rd_T154 l0 x4_1).f0))) + 1)) * ((rd_T154 l0 x4_1).f2))))) (wrap64 (x4_1 + 1))) else (some false)) = some r := H
                      have A16 := Aside0.mk A160
                      clear A160
                      by_cases c17 : t1217 = true
                      · subst c17
                        have H1 : (spec_IsForm.l0 kj1 l0 (wrap64 (x3_1 + (wrap64 ((wrap64 ((wrap64 (((rd_T154 l0 x4_1).f1) - ((rd_T154 l0 x4_1).f0))) + 1)) * ((rd_T154 l0 x4_1).f2))))) (wrap64 (x4_1 + 1))) = some r := by rw [if_pos rfl] at H; exact H
                        clear H
                        have H := H1
                        clear H1
                        have H' := Aside0.mk H
                        clear H
                        have p1215 : 0 ≤ (x4_1 : Int) := of_decide_eq_true (by first | (with_reducible assumption) | assumption)
                        have q1215 : x4_1 < (l0.length : Int) := of_decide_eq_true (by first | (with_reducible assumption) | assumption)
                        obtain ⟨ad1215, e1215, hx1215_0, hx1215_1, hx1215_2⟩ := at_T154 HR0.out x4_1 p1215 q1215
                        cases e1215
                        replace hx1215_0 := (HB.out.cell (World.block_lt_of_cell? w _ hx1215_0)).trans hx1215_0
                        replace hx1215_1 := (HB.out.cell (World.block_lt_of_cell? w _ hx1215_1)).trans hx1215_1
                        replace hx1215_2 := (HB.out.cell (World.block_lt_of_cell? w _ hx1215_2)).trans hx1215_2
                        replace p1215 := eq_true p1215
                        replace q1215 := eq_true q1215
                        go_wp2_with (first | ((with_reducible refine gate_dst (N := 5) rfl ?_); (try (refine gate_guard (by rfl) ?_; dsimp only)); refine box_event ?hg (N := 5) ?hd (cs := #[.int .i64 0, .int .i64 0, .int .i64 0]) (t := 154) ?hr ?_; (case hd => rfl); (case hg => rfl); (case hr => first | (go_simp; done) | (go_simp; rfl)); intro gb1216 hg w18 hbox hb; have n0_ := Aside0.mk (below_step (by repeat (first | (with_reducible first | exact HB.out | apply below_alloc | apply pw_below_drewN | apply below_drew1) | exact HB.out)) hb); have n1_ := Aside0.mk (hbox); have n2_ := Aside0.mk ((by rw [hg]; exact (below_size (by repeat (first | (with_reducible first | exact HB.out | apply below_alloc | apply pw_below_drewN | apply below_drew1) | exact HB.out))) : w.heap.size ≤ gb1216)); have n3_ := Aside0.mk ((by rw [hg]; exact (below_size (by repeat (first | (with_reducible first | exact HB.out | apply below_alloc | apply pw_below_drewN | apply below_drew1) | exact HB.out))) : w.heap.size ≤ gb1216)); clear HB; have HB := n0_; have BK1216 := n1_; have GW1216 := n2_; have GE1216 := n3_; clear n0_ n1_ n2_ n3_; clear hb hbox hg; have hcz19_0 : w18.cell? ⟨gb1216, 0, none⟩ = some (.int .i64 0) := (blk_cell BK1216.out 0).trans rfl; have hcz19_1 : w18.cell? ⟨gb1216, 1, none⟩ = some (.int .i64 0) := (blk_cell BK1216.out 1).trans rfl; have hcz19_2 : w18.cell? ⟨gb1216, 2, none⟩ = some (.int .i64 0) := (blk_cell BK1216.out 2).trans rfl; have hfz19_0 := blk_frozen BK1216.out 0; have hfz19_1 := blk_frozen BK1216.out 1; have hfz19_2 := blk_frozen BK1216.out 2) | (go_at_call 80; (with_reducible refine (spec_l1In.calls ((rd_T154 l0 x4_1).f2) 1 4 true _ A16.out).mono ?_); rintro e w' ⟨rfl, ⟨nd, rfl⟩⟩))
                        go_roundg kj1
                        case measure => have := HK1.out; have := HJ1.out; omega
                        case rel => exact ⟨(wrap64 (x3_1 + (wrap64 ((wrap64 ((wrap64 (((rd_T154 l0 x4_1).f1) - ((rd_T154 l0 x4_1).f0))) + 1)) * ((rd_T154 l0 x4_1).f2))))), (wrap64 (x4_1 + 1)), (by first | rfl | (simp; done) | (simp [*]; done)), (by first | rfl | (simp; done) | (simp [*]; done)), H', ⟨by have := HK1.out; have := HJ1.out; omega⟩, ⟨by repeat (first | (with_reducible first | exact HB.out | apply below_alloc | apply pw_below_drewN | apply below_drew1 | refine below_set ?_ GE1216.out) | exact HB.out)⟩⟩
                      · replace c17 := Bool.eq_false_iff.mpr c17
                        subst c17
                        have H1 : (some false) = some r := by rw [if_neg (show ¬ (false = true) by decide)] at H; exact H
                        clear H
                        have H := H1
                        clear H1
                        obtain rfl := Option.some.inj H
                        have p1215 : 0 ≤ (x4_1 : Int) := of_decide_eq_true (by first | (with_reducible assumption) | assumption)
                        have q1215 : x4_1 < (l0.length : Int) := of_decide_eq_true (by first | (with_reducible assumption) | assumption)
                        obtain ⟨ad1215, e1215, hx1215_0, hx1215_1, hx1215_2⟩ := at_T154 HR0.out x4_1 p1215 q1215
                        cases e1215
                        replace hx1215_0 := (HB.out.cell (World.block_lt_of_cell? w _ hx1215_0)).trans hx1215_0
                        replace hx1215_1 := (HB.out.cell (World.block_lt_of_cell? w _ hx1215_1)).trans hx1215_1
                        replace hx1215_2 := (HB.out.cell (World.block_lt_of_cell? w _ hx1215_2)).trans hx1215_2
                        replace p1215 := eq_true p1215
                        replace q1215 := eq_true q1215
                        go_wp2_with (first | ((with_reducible refine gate_dst (N := 5) rfl ?_); (try (refine gate_guard (by rfl) ?_; dsimp only)); refine box_event ?hg (N := 5) ?hd (cs := #[.int .i64 0, .int .i64 0, .int .i64 0]) (t := 154) ?hr ?_; (case hd => rfl); (case hg => rfl); (case hr => first | (go_simp; done) | (go_simp; rfl)); intro gb1216 hg w20 hbox hb; have n0_ := Aside0.mk (below_step (by repeat (first | (with_reducible first | exact HB.out | apply below_alloc | apply pw_below_drewN | apply below_drew1) | exact HB.out)) hb); have n1_ := Aside0.mk (hbox); have n2_ := Aside0.mk ((by rw [hg]; exact (below_size (by repeat (first | (with_reducible first | exact HB.out | apply below_alloc | apply pw_below_drewN | apply below_drew1) | exact HB.out))) : w.heap.size ≤ gb1216)); have n3_ := Aside0.mk ((by rw [hg]; exact (below_size (by repeat (first | (with_reducible first | exact HB.out | apply below_alloc | apply pw_below_drewN | apply below_drew1) | exact HB.out))) : w.heap.size ≤ gb1216)); clear HB; have HB := n0_; have BK1216 := n1_; have GW1216 := n2_; have GE1216 := n3_; clear n0_ n1_ n2_ n3_; clear hb hbox hg; have hcz21_0 : w20.cell? ⟨gb1216, 0, none⟩ = some (.int .i64 0) := (blk_cell BK1216.out 0).trans rfl; have hcz21_1 : w20.cell? ⟨gb1216, 1, none⟩ = some (.int .i64 0) := (blk_cell BK1216.out 1).trans rfl; have hcz21_2 : w20.cell? ⟨gb1216, 2, none⟩ = some (.int .i64 0) := (blk_cell BK1216.out 2).trans rfl; have hfz21_0 := blk_frozen BK1216.out 0; have hfz21_1 := blk_frozen BK1216.out 1; have hfz21_2 := blk_frozen BK1216.out 2) | (go_at_call 80; (with_reducible refine (spec_l1In.calls ((rd_T154 l0 x4_1).f2) 1 4 false _ A16.out).mono ?_); rintro e w' ⟨rfl, ⟨nd, rfl⟩⟩))
                        go_ret
                        exact ⟨by first | rfl | (simp [errW_none, errW_some] <;> rfl) | (simp [*, errW_none, errW_some] <;> rfl), by repeat (first | (with_reducible first | exact HB.out | apply below_alloc | apply pw_below_drewN | apply below_drew1 | refine below_set ?_ GE1216.out) | exact HB.out)⟩
              · rw [if_neg c6] at H
                exact absurd H (by simp)
            · rw [if_neg c5] at H
              exact absurd H (by simp)
          · replace c4 := Bool.eq_false_iff.mpr c4
            subst c4
            have H1 : (if (l0.length : Int) ≤ 10 then (some (decide (x3_1 ≤ 200))) else (some false)) = some r := by rw [if_neg (show ¬ (false = true) by decide)] at H; exact H
            clear H
            have H := H1
            clear H1
            by_cases c22 : (l0.length : Int) ≤ 10
            · rw [if_pos c22] at H
              have c22b0 : decide ((l0.length : Int) ≤ 10) = true := decide_eq_true c22
              have c22b1 : decide (l0.length ≤ 10) = true := decide_eq_true (by omega)
              clear c22
              obtain rfl := Option.some.inj H
              go_wp2
              go_ret
              exact ⟨by first | rfl | (simp [errW_none, errW_some] <;> rfl) | (simp [*, errW_none, errW_some] <;> rfl), by repeat (first | (with_reducible first | exact HB.out | apply below_alloc | apply pw_below_drewN | apply below_drew1) | exact HB.out)⟩
            · rw [if_neg c22] at H
              have c22b0 : decide ((l0.length : Int) ≤ 10) = false := decide_eq_false c22
              have c22b1 : decide (l0.length ≤ 10) = false := decide_eq_false (by omega)
              clear c22
              obtain rfl := Option.some.inj H
              go_wp2
              go_ret
              exact ⟨by first | rfl | (simp [errW_none, errW_some] <;> rfl) | (simp [*, errW_none, errW_some] <;> rfl), by repeat (first | (with_reducible first | exact HB.out | apply below_alloc | apply pw_below_drewN | apply below_drew1) | exact HB.out)⟩

end Go.Proofs.Ytiophiipmgpaeaa.F
