-- Written for this claim by the kit's print.py out of the translation, called by wip/tools/fprint.py. Lean checks it.
import Derived.Test.YtiophiipmgpaeaaF0
import Derived.Test.YtiophiipmgpaeaaF2
namespace Go.Proofs.Ytiophiipmgpaeaa.F
open Go.RowKit Go.Proofs.YtiophiipmgpaeaaW.PrintWords Go.Proofs.YtiophiipmgpaeaaW.PrintLast Go.Proofs.YtiophiipmgpaeaaW.PrintMore
attribute [local go_sem] max2_int min2_int max_two min_two max_three min_three max_four min_four   -- for this text's walks alone
set_option linter.unusedVariables false
set_option linter.unusedSimpArgs false

/-! ### spec_IsPart: function 89 -/
def spec_IsPart.l0 : Nat → List (S116) → Int → Int → Option (Bool)
  | 0, _, _, _ => none
  | k + 1, x0, x3, x4 => if x4 < (x0.length : Int) then (if 0 ≤ x4 then (if ((rd_T116 x0 x4).f0) = x3 then ((spec_l1In.f ((rd_T116 x0 x4).f1) 1 3000).bind fun t391 => (if t391 = true then (if ((rd_T116 x0 x4).f2) = 0 then (if x4 > 0 then (if 0 ≤ (wrap64 (x4 - 1)) then (if (wrap64 (x4 - 1)) < (x0.length : Int) then (if ((rd_T116 x0 (wrap64 (x4 - 1))).f2) = 0 then (some false) else (spec_IsPart.l0 k x0 (wrap64 (x3 + ((rd_T116 x0 x4).f1))) (wrap64 (x4 + 1)))) else (none)) else (none)) else (spec_IsPart.l0 k x0 (wrap64 (x3 + ((rd_T116 x0 x4).f1))) (wrap64 (x4 + 1)))) else ((spec_l1In.f ((rd_T116 x0 x4).f2) 21 108).bind fun t393 => (if t393 = true then (if ((rd_T116 x0 x4).f1) > 96 then (some false) else (if x4 > 0 then (spec_IsPart.l0 k x0 (wrap64 (x3 + ((rd_T116 x0 x4).f1))) (wrap64 (x4 + 1))) else (spec_IsPart.l0 k x0 (wrap64 (x3 + ((rd_T116 x0 x4).f1))) (wrap64 (x4 + 1))))) else (some false)))) else (some false))) else (some false)) else (none)) else (some true)
def spec_IsPart.f (k : Nat) (l0 : List (S116)) : Option (Bool) := spec_IsPart.l0 k l0 0 0
theorem spec_IsPart.mono_l : ∀ k, (∀ y0 y1 y2, LeO (spec_IsPart.l0 k y0 y1 y2) (spec_IsPart.l0 (k + 1) y0 y1 y2))
  | 0 => fun _ _ _ r h => by simp [spec_IsPart.l0] at h
  | k + 1 => by
    have ih0 := spec_IsPart.mono_l k
    · intro y0 y1 y2
      unfold spec_IsPart.l0
      repeat' first
      | (with_reducible exact ih0 _ _ _)
      | (with_reducible exact LeO.refl _)
      | (with_reducible exact LeO.none _)
      | (with_reducible refine LeO.ite ?_ ?_)
      | (with_reducible refine LeO.bind ?_ (fun _ => ?_))
      | exact ih0 _ _ _
      | exact LeO.none _
      | refine LeO.ite ?_ ?_
      | refine LeO.bind ?_ (fun _ => ?_)
theorem spec_IsPart.mono : ∀ a0 k, LeO (spec_IsPart.f k a0) (spec_IsPart.f (k + 1) a0) := by
  intro a0 k
  have ih0 := spec_IsPart.mono_l k
  unfold spec_IsPart.f
  repeat' first
      | (with_reducible exact ih0 _ _ _)
      | (with_reducible exact LeO.refl _)
      | (with_reducible exact LeO.none _)
      | (with_reducible refine LeO.ite ?_ ?_)
      | (with_reducible refine LeO.bind ?_ (fun _ => ?_))
      | exact ih0 _ _ _
      | exact LeO.none _
      | refine LeO.ite ?_ ?_
      | refine LeO.bind ?_ (fun _ => ?_)
set_option maxHeartbeats 8000000 in
set_option maxRecDepth 100000 in
theorem spec_IsPart.calls (k : Nat) (A0 : Option Addr) (c0 : Nat) (l0 : List (S116)) (r : Bool) (w : World) (hr0 : Kd.C k116 w A0 l0.length l0) (hc0 : l0.length ≤ c0) (h : spec_IsPart.f k l0 = some r) :
    Calls Try.prog 89 #[.slice A0 l0.length c0] w fun e w' => e = .returned (.bool r) ∧ Below w.heap.size w w' := by
  have hu116 := Try.underlying116
  have HR0 := Aside0.mk hr0
  have HC0 := Aside0.mk hc0
  clear hr0 hc0
  have HB := Aside0.mk (Below.refl w.heap.size w)
  have H : (spec_IsPart.l0 k l0 0 0) = some r := h
  clear h
  have H' := Aside0.mk H
  clear H
  go_enter Try.func89, Try.ntmps89
  go_wp2
  go_loopg [3, 4] k (fun kq v3 v4 w' => ∃ (x3_1 : Int) (x4_1 : Int), v3 = .int .i64 x3_1 ∧ v4 = .int .i64 x4_1 ∧ Aside0 (spec_IsPart.l0 kq l0 x3_1 x4_1 = some r) ∧ Aside0 (kq ≤ k) ∧ Aside0 (Below w.heap.size w w'))
  case atStart => exact ⟨(0), (0), (by first | rfl | (simp; done) | (simp [*]; done)), (by first | rfl | (simp; done) | (simp [*]; done)), H', ⟨Nat.le_refl _⟩, ⟨by repeat (first | (with_reducible first | exact HB.out | apply below_alloc | apply pw_below_drewN | apply below_drew1) | exact HB.out)⟩⟩
  case round =>
    clear H'
    obtain ⟨x3_1, x4_1, rfl, rfl, HA, HK1, HB⟩ := hrel
    cases gk with
    | zero => exact absurd HA.out (by simp [spec_IsPart.l0])
    | succ k1 =>
      have H := HA.out
      clear HA
      simp only [spec_IsPart.l0] at H
      by_cases c2 : x4_1 < (l0.length : Int)
      · rw [if_pos c2] at H
        have c2b0 : decide (x4_1 < (l0.length : Int)) = true := decide_eq_true c2
        clear c2
        by_cases c3 : 0 ≤ x4_1
        · rw [if_pos c3] at H
          have c3b0 : decide (0 ≤ x4_1) = true := decide_eq_true c3
          clear c3
          by_cases c4 : ((rd_T116 l0 x4_1).f0) = x3_1
          · rw [if_pos c4] at H
            have c4b0 : (((rd_T116 l0 x4_1).f0) == x3_1) = true := beq_iff_eq.mpr c4
            have c4b1 : (((rd_T116 l0 x4_1).f0) != x3_1) = false := bne_eq_false_iff_eq.mpr c4
            clear c4
            replace H := Option.bind_eq_some_iff.mp H
            obtain ⟨t391, A50, H⟩ := H
            replace H : (if t391 = true then (if ((rd_T116 l0 x4_1).f2) = 0 then (if x4_1 > 0 then (if 0 ≤ (wrap64 (x4_1 - 1)) then (if (wrap64 (x4_1 - 1)) < (l0.length : Int) then (if ((rd_T116 l0 (wrap64 (x4_1 - 1))).f2) = 0 then (some false) else (spec_IsPart.l0 k1 l0 (wrap64 (x3_1 + ((rd_T116 l0 x4_1).f1))) (wrap64 (x4_1 + 1)))) else (none)) else (none)) else (spec_IsPart.l0 k1 l0 (wrap64 (x3_1 + ((rd_T116 l0 x4_1).f1))) (wrap64 (x4_1 + 1)))) else ((spec_l1In.f ((rd_T116 l0 x4_1).f2) 21 108).bind fun t393 => (if t393 = true then (if ((rd_T116 l0 x4_1).f1) > 96 then (some false) else (if x4_1 > 0 then (spec_IsPart.l0 k1 l0 (wrap64 (x3_1 + ((rd_T116 l0 x4_1).f1))) (wrap64 (x4_1 + 1))) else (spec_IsPart.l0 k1 l0 (wrap64 (x3_1 + ((rd_T116 l0 x4_1).f1))) (wrap64 (x4_1 + 1))))) else (some false)))) else (some false)) = some r := H
            have A5 := Aside0.mk A50
            clear A50
            by_cases c6 : t391 = true
            · subst c6
              have H1 : (if ((rd_T116 l0 x4_1).f2) = 0 then (if x4_1 > 0 then (if 0 ≤ (wrap64 (x4_1 - 1)) then (if (wrap64 (x4_1 - 1)) < (l0.length : Int) then (if ((rd_T116 l0 (wrap64 (x4_1 - 1))).f2) = 0 then (some false) else (spec_IsPart.l0 k1 l0 (wrap64 (x3_1 + ((rd_T116 l0 x4_1).f1))) (wrap64 (x4_1 + 1)))) else (none)) else (none)) else (spec_IsPart.l0 k1 l0 (wrap64 (x3_1 + ((rd_T116 l0 x4_1).f1))) (wrap64 (x4_1 + 1)))) else ((spec_l1In.f ((rd_T116 l0 x4_1).f2) 21 108).bind fun t393 => (if t393 = true then (if ((rd_T116 l0 x4_1).f1) > 96 then (some false) else (if x4_1 > 0 then (spec_IsPart.l0 k1 l0 (wrap64 (x3_1 + ((rd_T116 l0 x4_1).f1))) (wrap64 (x4_1 + 1))) else (spec_IsPart.l0 k1 l0 (wrap64 (x3_1 + ((rd_T116 l0 x4_1).f1))) (wrap64 (x4_1 + 1))))) else (some false)))) = some r := by rw [if_pos rfl] at H; exact H
              clear H
              have H := H1
              clear H1
              by_cases c7 : ((rd_T116 l0 x4_1).f2) = 0
              · rw [if_pos c7] at H
                have c7b0 : (((rd_T116 l0 x4_1).f2) == 0) = true := beq_iff_eq.mpr c7
                have c7b1 : (((rd_T116 l0 x4_1).f2) != 0) = false := bne_eq_false_iff_eq.mpr c7
                clear c7
                by_cases c8 : x4_1 > 0
                · rw [if_pos c8] at H
                  have c8b0 : decide (0 < x4_1) = true := decide_eq_true c8
                  clear c8
                  obtain ⟨ji9, hji9⟩ : ∃ j_ : Int, (wrap64 (x4_1 - 1)) = j_ := ⟨_, rfl⟩
                  replace H : (if 0 ≤ (ji9) then (if (ji9) < (l0.length : Int) then (if ((rd_T116 l0 (ji9)).f2) = 0 then (some false) else (spec_IsPart.l0 k1 l0 (wrap64 (x3_1 + ((rd_T116 l0 x4_1).f1))) (wrap64 (x4_1 + 1)))) else (none)) else (none)) = some r := by first | (rw [hji9] at H; exact H) | (simp only [hji9] at H ⊢; exact H)
                  (try rw [hji9] at A5)
                  have hji9w : (IntKind.i64.wrap (x4_1 - 1)) = ji9 := (i64_w _).trans hji9
                  by_cases c10 : 0 ≤ (ji9)
                  · rw [if_pos c10] at H
                    have c10b0 : decide (0 ≤ (ji9)) = true := decide_eq_true c10
                    clear c10
                    by_cases c11 : (ji9) < (l0.length : Int)
                    · rw [if_pos c11] at H
                      have c11b0 : decide ((ji9) < (l0.length : Int)) = true := decide_eq_true c11
                      clear c11
                      by_cases c12 : ((rd_T116 l0 (ji9)).f2) = 0
                      · rw [if_pos c12] at H
                        have c12b0 : (((rd_T116 l0 (ji9)).f2) == 0) = true := beq_iff_eq.mpr c12
                        have c12b1 : (((rd_T116 l0 (ji9)).f2) != 0) = false := bne_eq_false_iff_eq.mpr c12
                        clear c12
                        obtain rfl := Option.some.inj H
                        have p389 : 0 ≤ (x4_1 : Int) := of_decide_eq_true (by first | (with_reducible assumption) | assumption)
                        have q389 : x4_1 < (l0.length : Int) := of_decide_eq_true (by first | (with_reducible assumption) | assumption)
                        obtain ⟨ad389, e389, hx389_0, hx389_1, hx389_2⟩ := at_T116 HR0.out x4_1 p389 q389
                        cases e389
                        replace hx389_0 := (HB.out.cell (World.block_lt_of_cell? w _ hx389_0)).trans hx389_0
                        replace hx389_1 := (HB.out.cell (World.block_lt_of_cell? w _ hx389_1)).trans hx389_1
                        replace hx389_2 := (HB.out.cell (World.block_lt_of_cell? w _ hx389_2)).trans hx389_2
                        replace p389 := eq_true p389
                        replace q389 := eq_true q389
                        go_wp2_with (first | ((with_reducible refine gate_dst (N := 5) rfl ?_); refine box_event ?hg (N := 5) ?hd (cs := #[.int .i64 0, .int .i64 0, .int .i64 0]) (t := 116) ?hr ?_; (case hd => rfl); (case hg => rfl); (case hr => first | (go_simp; done) | (go_simp; rfl)); intro gb390 hg w13 hbox hb; have n0_ := Aside0.mk (below_step (by repeat (first | (with_reducible first | exact HB.out | apply below_alloc | apply pw_below_drewN | apply below_drew1) | exact HB.out)) hb); have n1_ := Aside0.mk (hbox); have n2_ := Aside0.mk ((by rw [hg]; exact (below_size (by repeat (first | (with_reducible first | exact HB.out | apply below_alloc | apply pw_below_drewN | apply below_drew1) | exact HB.out))) : w.heap.size ≤ gb390)); have n3_ := Aside0.mk ((by rw [hg]; exact (below_size (by repeat (first | (with_reducible first | exact HB.out | apply below_alloc | apply pw_below_drewN | apply below_drew1) | exact HB.out))) : w.heap.size ≤ gb390)); clear HB; have HB := n0_; have BK390 := n1_; have GW390 := n2_; have GE390 := n3_; clear n0_ n1_ n2_ n3_; clear hb hbox hg; have hcz14_0 : w13.cell? ⟨gb390, 0, none⟩ = some (.int .i64 0) := (blk_cell BK390.out 0).trans rfl; have hcz14_1 : w13.cell? ⟨gb390, 1, none⟩ = some (.int .i64 0) := (blk_cell BK390.out 1).trans rfl; have hcz14_2 : w13.cell? ⟨gb390, 2, none⟩ = some (.int .i64 0) := (blk_cell BK390.out 2).trans rfl; have hfz14_0 := blk_frozen BK390.out 0; have hfz14_1 := blk_frozen BK390.out 1; have hfz14_2 := blk_frozen BK390.out 2) | (go_at_call 80; (with_reducible refine (spec_l1In.calls ((rd_T116 l0 x4_1).f1) 1 3000 true _ A5.out).mono ?_); rintro e w' ⟨rfl, ⟨nd, rfl⟩⟩; have p392 : 0 ≤ ((ji9) : Int) := of_decide_eq_true (by first | (with_reducible assumption) | assumption); have q392 : (ji9) < (l0.length : Int) := of_decide_eq_true (by first | (with_reducible assumption) | assumption); obtain ⟨ad392, e392, hx392_0, hx392_1, hx392_2⟩ := at_T116 HR0.out (ji9) p392 q392; obtain rfl : ad389 = ad392 := (by injection e392); have hn392_0 : ad389.block ≠ gb390 := Nat.ne_of_lt (Nat.lt_of_lt_of_le (by have := World.block_lt_of_cell? _ _ hx392_0; first | rwa [add_block] at this | exact this) GW390.out); have hn392_1 : ad389.block ≠ gb390 := Nat.ne_of_lt (Nat.lt_of_lt_of_le (by have := World.block_lt_of_cell? _ _ hx392_0; first | rwa [add_block] at this | exact this) GW390.out); have hn392_2 : ad389.block ≠ gb390 := Nat.ne_of_lt (Nat.lt_of_lt_of_le (by have := World.block_lt_of_cell? _ _ hx392_0; first | rwa [add_block] at this | exact this) GW390.out); replace hx392_0 := (HB.out.cell (World.block_lt_of_cell? w _ hx392_0)).trans hx392_0; replace hx392_1 := (HB.out.cell (World.block_lt_of_cell? w _ hx392_1)).trans hx392_1; replace hx392_2 := (HB.out.cell (World.block_lt_of_cell? w _ hx392_2)).trans hx392_2; replace hx392_0 := (cell_far (p := ⟨gb390, 0, none⟩) (by first | (rw [add_block]; exact hn392_0) | (show (Addr.add _ _).block ≠ _; rw [add_block]; exact hn392_0) | exact hn392_0) (.int .i64 ((rd_T116 l0 x4_1).f0))).trans hx392_0; replace hx392_1 := (cell_far (p := ⟨gb390, 0, none⟩) (by first | (rw [add_block]; exact hn392_0) | (show (Addr.add _ _).block ≠ _; rw [add_block]; exact hn392_0) | exact hn392_0) (.int .i64 ((rd_T116 l0 x4_1).f0))).trans hx392_1; replace hx392_2 := (cell_far (p := ⟨gb390, 0, none⟩) (by first | (rw [add_block]; exact hn392_0) | (show (Addr.add _ _).block ≠ _; rw [add_block]; exact hn392_0) | exact hn392_0) (.int .i64 ((rd_T116 l0 x4_1).f0))).trans hx392_2; replace hx392_0 := (cell_far (p := ⟨gb390, 1, none⟩) (by first | (rw [add_block]; exact hn392_1) | (show (Addr.add _ _).block ≠ _; rw [add_block]; exact hn392_1) | exact hn392_1) (.int .i64 ((rd_T116 l0 x4_1).f1))).trans hx392_0; replace hx392_1 := (cell_far (p := ⟨gb390, 1, none⟩) (by first | (rw [add_block]; exact hn392_1) | (show (Addr.add _ _).block ≠ _; rw [add_block]; exact hn392_1) | exact hn392_1) (.int .i64 ((rd_T116 l0 x4_1).f1))).trans hx392_1; replace hx392_2 := (cell_far (p := ⟨gb390, 1, none⟩) (by first | (rw [add_block]; exact hn392_1) | (show (Addr.add _ _).block ≠ _; rw [add_block]; exact hn392_1) | exact hn392_1) (.int .i64 ((rd_T116 l0 x4_1).f1))).trans hx392_2; replace hx392_0 := (cell_far (p := ⟨gb390, 2, none⟩) (by first | (rw [add_block]; exact hn392_2) | (show (Addr.add _ _).block ≠ _; rw [add_block]; exact hn392_2) | exact hn392_2) (.int .i64 ((rd_T116 l0 x4_1).f2))).trans hx392_0; replace hx392_1 := (cell_far (p := ⟨gb390, 2, none⟩) (by first | (rw [add_block]; exact hn392_2) | (show (Addr.add _ _).block ≠ _; rw [add_block]; exact hn392_2) | exact hn392_2) (.int .i64 ((rd_T116 l0 x4_1).f2))).trans hx392_1; replace hx392_2 := (cell_far (p := ⟨gb390, 2, none⟩) (by first | (rw [add_block]; exact hn392_2) | (show (Addr.add _ _).block ≠ _; rw [add_block]; exact hn392_2) | exact hn392_2) (.int .i64 ((rd_T116 l0 x4_1).f2))).trans hx392_2; clear hn392_0; clear hn392_1; clear hn392_2; replace p392 := eq_true p392; replace q392 := eq_true q392))
                        go_ret
                        exact ⟨by first | rfl | (simp [errW_none, errW_some] <;> rfl) | (simp only [← hji9]; first | rfl | (simp [errW_none, errW_some] <;> rfl)) | (simp [*, errW_none, errW_some] <;> rfl), by repeat (first | (with_reducible first | exact HB.out | apply below_alloc | apply pw_below_drewN | apply below_drew1 | refine below_set ?_ GE390.out) | exact HB.out)⟩
                      · rw [if_neg c12] at H
                        have c12b0 : (((rd_T116 l0 (ji9)).f2) == 0) = false := beq_eq_false_iff_ne.mpr c12
                        have c12b1 : (((rd_T116 l0 (ji9)).f2) != 0) = true := bne_iff_ne.mpr c12
                        have H' := Aside0.mk H
                        clear H
                        have p389 : 0 ≤ (x4_1 : Int) := of_decide_eq_true (by first | (with_reducible assumption) | assumption)
                        have q389 : x4_1 < (l0.length : Int) := of_decide_eq_true (by first | (with_reducible assumption) | assumption)
                        obtain ⟨ad389, e389, hx389_0, hx389_1, hx389_2⟩ := at_T116 HR0.out x4_1 p389 q389
                        cases e389
                        replace hx389_0 := (HB.out.cell (World.block_lt_of_cell? w _ hx389_0)).trans hx389_0
                        replace hx389_1 := (HB.out.cell (World.block_lt_of_cell? w _ hx389_1)).trans hx389_1
                        replace hx389_2 := (HB.out.cell (World.block_lt_of_cell? w _ hx389_2)).trans hx389_2
                        replace p389 := eq_true p389
                        replace q389 := eq_true q389
                        go_wp2_with (first | ((with_reducible refine gate_dst (N := 5) rfl ?_); refine box_event ?hg (N := 5) ?hd (cs := #[.int .i64 0, .int .i64 0, .int .i64 0]) (t := 116) ?hr ?_; (case hd => rfl); (case hg => rfl); (case hr => first | (go_simp; done) | (go_simp; rfl)); intro gb390 hg w15 hbox hb; have n0_ := Aside0.mk (below_step (by repeat (first | (with_reducible first | exact HB.out | apply below_alloc | apply pw_below_drewN | apply below_drew1) | exact HB.out)) hb); have n1_ := Aside0.mk (hbox); have n2_ := Aside0.mk ((by rw [hg]; exact (below_size (by repeat (first | (with_reducible first | exact HB.out | apply below_alloc | apply pw_below_drewN | apply below_drew1) | exact HB.out))) : w.heap.size ≤ gb390)); have n3_ := Aside0.mk ((by rw [hg]; exact (below_size (by repeat (first | (with_reducible first | exact HB.out | apply below_alloc | apply pw_below_drewN | apply below_drew1) | exact HB.out))) : w.heap.size ≤ gb390)); clear HB; have HB := n0_; have BK390 := n1_; have GW390 := n2_; have GE390 := n3_; clear n0_ n1_ n2_ n3_; clear hb hbox hg; have hcz16_0 : w15.cell? ⟨gb390, 0, none⟩ = some (.int .i64 0) := (blk_cell BK390.out 0).trans rfl; have hcz16_1 : w15.cell? ⟨gb390, 1, none⟩ = some (.int .i64 0) := (blk_cell BK390.out 1).trans rfl; have hcz16_2 : w15.cell? ⟨gb390, 2, none⟩ = some (.int .i64 0) := (blk_cell BK390.out 2).trans rfl; have hfz16_0 := blk_frozen BK390.out 0; have hfz16_1 := blk_frozen BK390.out 1; have hfz16_2 := blk_frozen BK390.out 2) | (go_at_call 80; (with_reducible refine (spec_l1In.calls ((rd_T116 l0 x4_1).f1) 1 3000 true _ A5.out).mono ?_); rintro e w' ⟨rfl, ⟨nd, rfl⟩⟩; have p392 : 0 ≤ ((ji9) : Int) := of_decide_eq_true (by first | (with_reducible assumption) | assumption); have q392 : (ji9) < (l0.length : Int) := of_decide_eq_true (by first | (with_reducible assumption) | assumption); obtain ⟨ad392, e392, hx392_0, hx392_1, hx392_2⟩ := at_T116 HR0.out (ji9) p392 q392; obtain rfl : ad389 = ad392 := (by injection e392); have hn392_0 : ad389.block ≠ gb390 := Nat.ne_of_lt (Nat.lt_of_lt_of_le (by have := World.block_lt_of_cell? _ _ hx392_0; first | rwa [add_block] at this | exact this) GW390.out); have hn392_1 : ad389.block ≠ gb390 := Nat.ne_of_lt (Nat.lt_of_lt_of_le (by have := World.block_lt_of_cell? _ _ hx392_0; first | rwa [add_block] at this | exact this) GW390.out); have hn392_2 : ad389.block ≠ gb390 := Nat.ne_of_lt (Nat.lt_of_lt_of_le (by have := World.block_lt_of_cell? _ _ hx392_0; first | rwa [add_block] at this | exact this) GW390.out); replace hx392_0 := (HB.out.cell (World.block_lt_of_cell? w _ hx392_0)).trans hx392_0; replace hx392_1 := (HB.out.cell (World.block_lt_of_cell? w _ hx392_1)).trans hx392_1; replace hx392_2 := (HB.out.cell (World.block_lt_of_cell? w _ hx392_2)).trans hx392_2; replace hx392_0 := (cell_far (p := ⟨gb390, 0, none⟩) (by first | (rw [add_block]; exact hn392_0) | (show (Addr.add _ _).block ≠ _; rw [add_block]; exact hn392_0) | exact hn392_0) (.int .i64 ((rd_T116 l0 x4_1).f0))).trans hx392_0; replace hx392_1 := (cell_far (p := ⟨gb390, 0, none⟩) (by first | (rw [add_block]; exact hn392_0) | (show (Addr.add _ _).block ≠ _; rw [add_block]; exact hn392_0) | exact hn392_0) (.int .i64 ((rd_T116 l0 x4_1).f0))).trans hx392_1; replace hx392_2 := (cell_far (p := ⟨gb390, 0, none⟩) (by first | (rw [add_block]; exact hn392_0) | (show (Addr.add _ _).block ≠ _; rw [add_block]; exact hn392_0) | exact hn392_0) (.int .i64 ((rd_T116 l0 x4_1).f0))).trans hx392_2; replace hx392_0 := (cell_far (p := ⟨gb390, 1, none⟩) (by first | (rw [add_block]; exact hn392_1) | (show (Addr.add _ _).block ≠ _; rw [add_block]; exact hn392_1) | exact hn392_1) (.int .i64 ((rd_T116 l0 x4_1).f1))).trans hx392_0; replace hx392_1 := (cell_far (p := ⟨gb390, 1, none⟩) (by first | (rw [add_block]; exact hn392_1) | (show (Addr.add _ _).block ≠ _; rw [add_block]; exact hn392_1) | exact hn392_1) (.int .i64 ((rd_T116 l0 x4_1).f1))).trans hx392_1; replace hx392_2 := (cell_far (p := ⟨gb390, 1, none⟩) (by first | (rw [add_block]; exact hn392_1) | (show (Addr.add _ _).block ≠ _; rw [add_block]; exact hn392_1) | exact hn392_1) (.int .i64 ((rd_T116 l0 x4_1).f1))).trans hx392_2; replace hx392_0 := (cell_far (p := ⟨gb390, 2, none⟩) (by first | (rw [add_block]; exact hn392_2) | (show (Addr.add _ _).block ≠ _; rw [add_block]; exact hn392_2) | exact hn392_2) (.int .i64 ((rd_T116 l0 x4_1).f2))).trans hx392_0; replace hx392_1 := (cell_far (p := ⟨gb390, 2, none⟩) (by first | (rw [add_block]; exact hn392_2) | (show (Addr.add _ _).block ≠ _; rw [add_block]; exact hn392_2) | exact hn392_2) (.int .i64 ((rd_T116 l0 x4_1).f2))).trans hx392_1; replace hx392_2 := (cell_far (p := ⟨gb390, 2, none⟩) (by first | (rw [add_block]; exact hn392_2) | (show (Addr.add _ _).block ≠ _; rw [add_block]; exact hn392_2) | exact hn392_2) (.int .i64 ((rd_T116 l0 x4_1).f2))).trans hx392_2; clear hn392_0; clear hn392_1; clear hn392_2; replace p392 := eq_true p392; replace q392 := eq_true q392))
                        go_roundg k1
                        case measure => have := HK1.out; omega
                        case rel => exact ⟨(wrap64 (x3_1 + ((rd_T116 l0 x4_1).f1))), (wrap64 (x4_1 + 1)), (by first | rfl | (simp; done) | (simp [*]; done)), (by first | rfl | (simp; done) | (simp [*]; done)), H', ⟨by have := HK1.out; omega⟩, ⟨by repeat (first | (with_reducible first | exact HB.out | apply below_alloc | apply pw_below_drewN | apply below_drew1 | refine below_set ?_ GE390.out) | exact HB.out)⟩⟩
                    · rw [if_neg c11] at H
                      exact absurd H (by simp)
                  · rw [if_neg c10] at H
                    exact absurd H (by simp)
                · rw [if_neg c8] at H
                  have c8b0 : decide (0 < x4_1) = false := decide_eq_false c8
                  clear c8
                  have H' := Aside0.mk H
                  clear H
                  have p389 : 0 ≤ (x4_1 : Int) := of_decide_eq_true (by first | (with_reducible assumption) | assumption)
                  have q389 : x4_1 < (l0.length : Int) := of_decide_eq_true (by first | (with_reducible assumption) | assumption)
                  obtain ⟨ad389, e389, hx389_0, hx389_1, hx389_2⟩ := at_T116 HR0.out x4_1 p389 q389
                  cases e389
                  replace hx389_0 := (HB.out.cell (World.block_lt_of_cell? w _ hx389_0)).trans hx389_0
                  replace hx389_1 := (HB.out.cell (World.block_lt_of_cell? w _ hx389_1)).trans hx389_1
                  replace hx389_2 := (HB.out.cell (World.block_lt_of_cell? w _ hx389_2)).trans hx389_2
                  replace p389 := eq_true p389
                  replace q389 := eq_true q389
                  go_wp2_with (first | ((with_reducible refine gate_dst (N := 5) rfl ?_); refine box_event ?hg (N := 5) ?hd (cs := #[.int .i64 0, .int .i64 0, .int .i64 0]) (t := 116) ?hr ?_; (case hd => rfl); (case hg => rfl); (case hr => first | (go_simp; done) | (go_simp; rfl)); intro gb390 hg w17 hbox hb; have n0_ := Aside0.mk (below_step (by repeat (first | (with_reducible first | exact HB.out | apply below_alloc | apply pw_below_drewN | apply below_drew1) | exact HB.out)) hb); have n1_ := Aside0.mk (hbox); have n2_ := Aside0.mk ((by rw [hg]; exact (below_size (by repeat (first | (with_reducible first | exact HB.out | apply below_alloc | apply pw_below_drewN | apply below_drew1) | exact HB.out))) : w.heap.size ≤ gb390)); have n3_ := Aside0.mk ((by rw [hg]; exact (below_size (by repeat (first | (with_reducible first | exact HB.out | apply below_alloc | apply pw_below_drewN | apply below_drew1) | exact HB.out))) : w.heap.size ≤ gb390)); clear HB; have HB := n0_; have BK390 := n1_; have GW390 := n2_; have GE390 := n3_; clear n0_ n1_ n2_ n3_; clear hb hbox hg; have hcz18_0 : w17.cell? ⟨gb390, 0, none⟩ = some (.int .i64 0) := (blk_cell BK390.out 0).trans rfl; have hcz18_1 : w17.cell? ⟨gb390, 1, none⟩ = some (.int .i64 0) := (blk_cell BK390.out 1).trans rfl; have hcz18_2 : w17.cell? ⟨gb390, 2, none⟩ = some (.int .i64 0) := (blk_cell BK390.out 2).trans rfl; have hfz18_0 := blk_frozen BK390.out 0; have hfz18_1 := blk_frozen BK390.out 1; have hfz18_2 := blk_frozen BK390.out 2) | (go_at_call 80; (with_reducible refine (spec_l1In.calls ((rd_T116 l0 x4_1).f1) 1 3000 true _ A5.out).mono ?_); rintro e w' ⟨rfl, ⟨nd, rfl⟩⟩))
                  go_roundg k1
                  case measure => have := HK1.out; omega
                  case rel => exact ⟨(wrap64 (x3_1 + ((rd_T116 l0 x4_1).f1))), (wrap64 (x4_1 + 1)), (by first | rfl | (simp; done) | (simp [*]; done)), (by first | rfl | (simp; done) | (simp [*]; done)), H', ⟨by have := HK1.out; omega⟩, ⟨by repeat (first | (with_reducible first | exact HB.out | apply below_alloc | apply pw_below_drewN | apply below_drew1 | refine below_set ?_ GE390.out) | exact HB.out)⟩⟩
              · rw [if_neg c7] at H
                have c7b0 : (((rd_T116 l0 x4_1).f2) == 0) = false := beq_eq_false_iff_ne.mpr c7
                have c7b1 : (((rd_T116 l0 x4_1).f2) != 0) = true := bne_iff_ne.mpr c7
                replace H := Option.bind_eq_some_iff.mp H
                obtain ⟨t393, A190, H⟩ := H
                replace H : (if t393 = true then (if ((rd_T116 l0 x4_1).f1) > 96 then (some false) else (if x4_1 > 0 then (spec_IsPart.l0 k1 l0 (wrap64 (x3_1 + ((rd_T116 l0 x4_1).f1))) (wrap64 (x4_1 + 1))) else (spec_IsPart.l0 k1 l0 (wrap64 (x3_1 + ((rd_T116 l0 x4_1).f1))) (wrap64 (x4_1 + 1))))) else (some false)) = some r := H
                have A19 := Aside0.mk A190
                clear A190
                by_cases c20 : t393 = true
                · subst c20
                  have H1 : (if ((rd_T116 l0 x4_1).f1) > 96 then (some false) else (if x4_1 > 0 then (spec_IsPart.l0 k1 l0 (wrap64 (x3_1 + ((rd_T116 l0 x4_1).f1))) (wrap64 (x4_1 + 1))) else (spec_IsPart.l0 k1 l0 (wrap64 (x3_1 + ((rd_T116 l0 x4_1).f1))) (wrap64 (x4_1 + 1))))) = some r := by rw [if_pos rfl] at H; exact H
                  clear H
                  have H := H1
                  clear H1
                  by_cases c21 : ((rd_T116 l0 x4_1).f1) > 96
                  · rw [if_pos c21] at H
                    have c21b0 : decide (96 < ((rd_T116 l0 x4_1).f1)) = true := decide_eq_true c21
                    clear c21
                    obtain rfl := Option.some.inj H
                    have p389 : 0 ≤ (x4_1 : Int) := of_decide_eq_true (by first | (with_reducible assumption) | assumption)
                    have q389 : x4_1 < (l0.length : Int) := of_decide_eq_true (by first | (with_reducible assumption) | assumption)
                    obtain ⟨ad389, e389, hx389_0, hx389_1, hx389_2⟩ := at_T116 HR0.out x4_1 p389 q389
                    cases e389
                    replace hx389_0 := (HB.out.cell (World.block_lt_of_cell? w _ hx389_0)).trans hx389_0
                    replace hx389_1 := (HB.out.cell (World.block_lt_of_cell? w _ hx389_1)).trans hx389_1
                    replace hx389_2 := (HB.out.cell (World.block_lt_of_cell? w _ hx389_2)).trans hx389_2
                    replace p389 := eq_true p389
                    replace q389 := eq_true q389
                    go_wp2_with (first | ((with_reducible refine gate_dst (N := 5) rfl ?_); refine box_event ?hg (N := 5) ?hd (cs := #[.int .i64 0, .int .i64 0, .int .i64 0]) (t := 116) ?hr ?_; (case hd => rfl); (case hg => rfl); (case hr => first | (go_simp; done) | (go_simp; rfl)); intro gb390 hg w22 hbox hb; have n0_ := Aside0.mk (below_step (by repeat (first | (with_reducible first | exact HB.out | apply below_alloc | apply pw_below_drewN | apply below_drew1) | exact HB.out)) hb); have n1_ := Aside0.mk (hbox); have n2_ := Aside0.mk ((by rw [hg]; exact (below_size (by repeat (first | (with_reducible first | exact HB.out | apply below_alloc | apply pw_below_drewN | apply below_drew1) | exact HB.out))) : w.heap.size ≤ gb390)); have n3_ := Aside0.mk ((by rw [hg]; exact (below_size (by repeat (first | (with_reducible first | exact HB.out | apply below_alloc | apply pw_below_drewN | apply below_drew1) | exact HB.out))) : w.heap.size ≤ gb390)); clear HB; have HB := n0_; have BK390 := n1_; have GW390 := n2_; have GE390 := n3_; clear n0_ n1_ n2_ n3_; clear hb hbox hg; have hcz23_0 : w22.cell? ⟨gb390, 0, none⟩ = some (.int .i64 0) := (blk_cell BK390.out 0).trans rfl; have hcz23_1 : w22.cell? ⟨gb390, 1, none⟩ = some (.int .i64 0) := (blk_cell BK390.out 1).trans rfl; have hcz23_2 : w22.cell? ⟨gb390, 2, none⟩ = some (.int .i64 0) := (blk_cell BK390.out 2).trans rfl; have hfz23_0 := blk_frozen BK390.out 0; have hfz23_1 := blk_frozen BK390.out 1; have hfz23_2 := blk_frozen BK390.out 2) | (go_at_call 80; (with_reducible refine (spec_l1In.calls ((rd_T116 l0 x4_1).f1) 1 3000 true _ A5.out).mono ?_); rintro e w' ⟨rfl, ⟨nd, rfl⟩⟩) | (go_at_call 80; (with_reducible refine (spec_l1In.calls ((rd_T116 l0 x4_1).f2) 21 108 true _ A19.out).mono ?_); rintro e w' ⟨rfl, ⟨nd, rfl⟩⟩))
                    go_ret
                    exact ⟨by first | rfl | (simp [errW_none, errW_some] <;> rfl) | (simp [*, errW_none, errW_some] <;> rfl), by repeat (first | (with_reducible first | exact HB.out | apply below_alloc | apply pw_below_drewN | apply below_drew1 | refine below_set ?_ GE390.out) | exact HB.out)⟩
                  · rw [if_neg c21] at H
                    have c21b0 : decide (96 < ((rd_T116 l0 x4_1).f1)) = false := decide_eq_false c21
                    clear c21
                    by_cases c24 : x4_1 > 0
                    · rw [if_pos c24] at H
                      have c24b0 : decide (0 < x4_1) = true := decide_eq_true c24
                      clear c24
                      have H' := Aside0.mk H
                      clear H
                      have p389 : 0 ≤ (x4_1 : Int) := of_decide_eq_true (by first | (with_reducible assumption) | assumption)
                      have q389 : x4_1 < (l0.length : Int) := of_decide_eq_true (by first | (with_reducible assumption) | assumption)
                      obtain ⟨ad389, e389, hx389_0, hx389_1, hx389_2⟩ := at_T116 HR0.out x4_1 p389 q389
                      cases e389
                      replace hx389_0 := (HB.out.cell (World.block_lt_of_cell? w _ hx389_0)).trans hx389_0
                      replace hx389_1 := (HB.out.cell (World.block_lt_of_cell? w _ hx389_1)).trans hx389_1
                      replace hx389_2 := (HB.out.cell (World.block_lt_of_cell? w _ hx389_2)).trans hx389_2
                      replace p389 := eq_true p389
                      replace q389 := eq_true q389
                      go_wp2_with (first | ((with_reducible refine gate_dst (N := 5) rfl ?_); refine box_event ?hg (N := 5) ?hd (cs := #[.int .i64 0, .int .i64 0, .int .i64 0]) (t := 116) ?hr ?_; (case hd => rfl); (case hg => rfl); (case hr => first | (go_simp; done) | (go_simp; rfl)); intro gb390 hg w25 hbox hb; have n0_ := Aside0.mk (below_step (by repeat (first | (with_reducible first | exact HB.out | apply below_alloc | apply pw_below_drewN | apply below_drew1) | exact HB.out)) hb); have n1_ := Aside0.mk (hbox); have n2_ := Aside0.mk ((by rw [hg]; exact (below_size (by repeat (first | (with_reducible first | exact HB.out | apply below_alloc | apply pw_below_drewN | apply below_drew1) | exact HB.out))) : w.heap.size ≤ gb390)); have n3_ := Aside0.mk ((by rw [hg]; exact (below_size (by repeat (first | (with_reducible first | exact HB.out | apply below_alloc | apply pw_below_drewN | apply below_drew1) | exact HB.out))) : w.heap.size ≤ gb390)); clear HB; have HB := n0_; have BK390 := n1_; have GW390 := n2_; have GE390 := n3_; clear n0_ n1_ n2_ n3_; clear hb hbox hg; have hcz26_0 : w25.cell? ⟨gb390, 0, none⟩ = some (.int .i64 0) := (blk_cell BK390.out 0).trans rfl; have hcz26_1 : w25.cell? ⟨gb390, 1, none⟩ = some (.int .i64 0) := (blk_cell BK390.out 1).trans rfl; have hcz26_2 : w25.cell? ⟨gb390, 2, none⟩ = some (.int .i64 0) := (blk_cell BK390.out 2).trans rfl; have hfz26_0 := blk_frozen BK390.out 0; have hfz26_1 := blk_frozen BK390.out 1; have hfz26_2 := blk_frozen BK390.out 2) | (go_at_call 80; (with_reducible refine (spec_l1In.calls ((rd_T116 l0 x4_1).f1) 1 3000 true _ A5.out).mono ?_); rintro e w' ⟨rfl, ⟨nd, rfl⟩⟩) | (go_at_call 80; (with_reducible refine (spec_l1In.calls ((rd_T116 l0 x4_1).f2) 21 108 true _ A19.out).mono ?_); rintro e w' ⟨rfl, ⟨nd, rfl⟩⟩))
                      go_roundg k1
                      case measure => have := HK1.out; omega
                      case rel => exact ⟨(wrap64 (x3_1 + ((rd_T116 l0 x4_1).f1))), (wrap64 (x4_1 + 1)), (by first | rfl | (simp; done) | (simp [*]; done)), (by first | rfl | (simp; done) | (simp [*]; done)), H', ⟨by have := HK1.out; omega⟩, ⟨by repeat (first | (with_reducible first | exact HB.out | apply below_alloc | apply pw_below_drewN | apply below_drew1 | refine below_set ?_ GE390.out) | exact HB.out)⟩⟩
                    · rw [if_neg c24] at H
                      have c24b0 : decide (0 < x4_1) = false := decide_eq_false c24
                      clear c24
                      have H' := Aside0.mk H
                      clear H
                      have p389 : 0 ≤ (x4_1 : Int) := of_decide_eq_true (by first | (with_reducible assumption) | assumption)
                      have q389 : x4_1 < (l0.length : Int) := of_decide_eq_true (by first | (with_reducible assumption) | assumption)
                      obtain ⟨ad389, e389, hx389_0, hx389_1, hx389_2⟩ := at_T116 HR0.out x4_1 p389 q389
                      cases e389
                      replace hx389_0 := (HB.out.cell (World.block_lt_of_cell? w _ hx389_0)).trans hx389_0
                      replace hx389_1 := (HB.out.cell (World.block_lt_of_cell? w _ hx389_1)).trans hx389_1
                      replace hx389_2 := (HB.out.cell (World.block_lt_of_cell? w _ hx389_2)).trans hx389_2
                      replace p389 := eq_true p389
                      replace q389 := eq_true q389
                      go_wp2_with (first | ((with_reducible refine gate_dst (N := 5) rfl ?_); refine box_event ?hg (N := 5) ?hd (cs := #[.int .i64 0, .int .i64 0, .int .i64 0]) (t := 116) ?hr ?_; (case hd => rfl); (case hg => rfl); (case hr => first | (go_simp; done) | (go_simp; rfl)); intro gb390 hg w27 hbox hb; have n0_ := Aside0.mk (below_step (by repeat (first | (with_reducible first | exact HB.out | apply below_alloc | apply pw_below_drewN | apply below_drew1) | exact HB.out)) hb); have n1_ := Aside0.mk (hbox); have n2_ := Aside0.mk ((by rw [hg]; exact (below_size (by repeat (first | (with_reducible first | exact HB.out | apply below_alloc | apply pw_below_drewN | apply below_drew1) | exact HB.out))) : w.heap.size ≤ gb390)); have n3_ := Aside0.mk ((by rw [hg]; exact (below_size (by repeat (first | (with_reducible first | exact HB.out | apply below_alloc | apply pw_below_drewN | apply below_drew1) | exact HB.out))) : w.heap.size ≤ gb390)); clear HB; have HB := n0_; have BK390 := n1_; have GW390 := n2_; have GE390 := n3_; clear n0_ n1_ n2_ n3_; clear hb hbox hg; have hcz28_0 : w27.cell? ⟨gb390, 0, none⟩ = some (.int .i64 0) := (blk_cell BK390.out 0).trans rfl; have hcz28_1 : w27.cell? ⟨gb390, 1, none⟩ = some (.int .i64 0) := (blk_cell BK390.out 1).trans rfl; have hcz28_2 : w27.cell? ⟨gb390, 2, none⟩ = some (.int .i64 0) := (blk_cell BK390.out 2).trans rfl; have hfz28_0 := blk_frozen BK390.out 0; have hfz28_1 := blk_frozen BK390.out 1; have hfz28_2 := blk_frozen BK390.out 2) | (go_at_call 80; (with_reducible refine (spec_l1In.calls ((rd_T116 l0 x4_1).f1) 1 3000 true _ A5.out).mono ?_); rintro e w' ⟨rfl, ⟨nd, rfl⟩⟩) | (go_at_call 80; (with_reducible refine (spec_l1In.calls ((rd_T116 l0 x4_1).f2) 21 108 true _ A19.out).mono ?_); rintro e w' ⟨rfl, ⟨nd, rfl⟩⟩))
                      go_roundg k1
                      case measure => have := HK1.out; omega
                      case rel => exact ⟨(wrap64 (x3_1 + ((rd_T116 l0 x4_1).f1))), (wrap64 (x4_1 + 1)), (by first | rfl | (simp; done) | (simp [*]; done)), (by first | rfl | (simp; done) | (simp [*]; done)), H', ⟨by have := HK1.out; omega⟩, ⟨by repeat (first | (with_reducible first | exact HB.out | apply below_alloc | apply pw_below_drewN | apply below_drew1 | refine below_set ?_ GE390.out) | exact HB.out)⟩⟩
                · replace c20 := Bool.eq_false_iff.mpr c20
                  subst c20
                  have H1 : (some false) = some r := by rw [if_neg (show ¬ (false = true) by decide)] at H; exact H
                  clear H
                  have H := H1
                  clear H1
                  obtain rfl := Option.some.inj H
                  have p389 : 0 ≤ (x4_1 : Int) := of_decide_eq_true (by first | (with_reducible assumption) | assumption)
                  have q389 : x4_1 < (l0.length : Int) := of_decide_eq_true (by first | (with_reducible assumption) | assumption)
                  obtain ⟨ad389, e389, hx389_0, hx389_1, hx389_2⟩ := at_T116 HR0.out x4_1 p389 q389
                  cases e389
                  replace hx389_0 := (HB.out.cell (World.block_lt_of_cell? w _ hx389_0)).trans hx389_0
                  replace hx389_1 := (HB.out.cell (World.block_lt_of_cell? w _ hx389_1)).trans hx389_1
                  replace hx389_2 := (HB.out.cell (World.block_lt_of_cell? w _ hx389_2)).trans hx389_2
                  replace p389 := eq_true p389
                  replace q389 := eq_true q389
                  go_wp2_with (first | ((with_reducible refine gate_dst (N := 5) rfl ?_); refine box_event ?hg (N := 5) ?hd (cs := #[.int .i64 0, .int .i64 0, .int .i64 0]) (t := 116) ?hr ?_; (case hd => rfl); (case hg => rfl); (case hr => first | (go_simp; done) | (go_simp; rfl)); intro gb390 hg w29 hbox hb; have n0_ := Aside0.mk (below_step (by repeat (first | (with_reducible first | exact HB.out | apply below_alloc | apply pw_below_drewN | apply below_drew1) | exact HB.out)) hb); have n1_ := Aside0.mk (hbox); have n2_ := Aside0.mk ((by rw [hg]; exact (below_size (by repeat (first | (with_reducible first | exact HB.out | apply below_alloc | apply pw_below_drewN | apply below_drew1) | exact HB.out))) : w.heap.size ≤ gb390)); have n3_ := Aside0.mk ((by rw [hg]; exact (below_size (by repeat (first | (with_reducible first | exact HB.out | apply below_alloc | apply pw_below_drewN | apply below_drew1) | exact HB.out))) : w.heap.size ≤ gb390)); clear HB; have HB := n0_; have BK390 := n1_; have GW390 := n2_; have GE390 := n3_; clear n0_ n1_ n2_ n3_; clear hb hbox hg; have hcz30_0 : w29.cell? ⟨gb390, 0, none⟩ = some (.int .i64 0) := (blk_cell BK390.out 0).trans rfl; have hcz30_1 : w29.cell? ⟨gb390, 1, none⟩ = some (.int .i64 0) := (blk_cell BK390.out 1).trans rfl; have hcz30_2 : w29.cell? ⟨gb390, 2, none⟩ = some (.int .i64 0) := (blk_cell BK390.out 2).trans rfl; have hfz30_0 := blk_frozen BK390.out 0; have hfz30_1 := blk_frozen BK390.out 1; have hfz30_2 := blk_frozen BK390.out 2) | (go_at_call 80; (with_reducible refine (spec_l1In.calls ((rd_T116 l0 x4_1).f1) 1 3000 true _ A5.out).mono ?_); rintro e w' ⟨rfl, ⟨nd, rfl⟩⟩) | (go_at_call 80; (with_reducible refine (spec_l1In.calls ((rd_T116 l0 x4_1).f2) 21 108 false _ A19.out).mono ?_); rintro e w' ⟨rfl, ⟨nd, rfl⟩⟩))
                  go_ret
                  exact ⟨by first | rfl | (simp [errW_none, errW_some] <;> rfl) | (simp [*, errW_none, errW_some] <;> rfl), by repeat (first | (with_reducible first | exact HB.out | apply below_alloc | apply pw_below_drewN | apply below_drew1 | refine below_set ?_ GE390.out) | exact HB.out)⟩
            · replace c6 := Bool.eq_false_iff.mpr c6
              subst c6
              have H1 : (some false) = some r := by rw [if_neg (show ¬ (false = true) by decide)] at H; exact H
              clear H
              have H := H1
              clear H1
              obtain rfl := Option.some.inj H
              have p389 : 0 ≤ (x4_1 : Int) := of_decide_eq_true (by first | (with_reducible assumption) | assumption)
              have q389 : x4_1 < (l0.length : Int) := of_decide_eq_true (by first | (with_reducible assumption) | assumption)
              obtain ⟨ad389, e389, hx389_0, hx389_1, hx389_2⟩ := at_T116 HR0.out x4_1 p389 q389
              cases e389
              replace hx389_0 := (HB.out.cell (World.block_lt_of_cell? w _ hx389_0)).trans hx389_0
              replace hx389_1 := (HB.out.cell (World.block_lt_of_cell? w _ hx389_1)).trans hx389_1
              replace hx389_2 := (HB.out.cell (World.block_lt_of_cell? w _ hx389_2)).trans hx389_2
              replace p389 := eq_true p389
              replace q389 := eq_true q389
              go_wp2_with (first | ((with_reducible refine gate_dst (N := 5) rfl ?_); refine box_event ?hg (N := 5) ?hd (cs := #[.int .i64 0, .int .i64 0, .int .i64 0]) (t := 116) ?hr ?_; (case hd => rfl); (case hg => rfl); (case hr => first | (go_simp; done) | (go_simp; rfl)); intro gb390 hg w31 hbox hb; have n0_ := Aside0.mk (below_step (by repeat (first | (with_reducible first | exact HB.out | apply below_alloc | apply pw_below_drewN | apply below_drew1) | exact HB.out)) hb); have n1_ := Aside0.mk (hbox); have n2_ := Aside0.mk ((by rw [hg]; exact (below_size (by repeat (first | (with_reducible first | exact HB.out | apply below_alloc | apply pw_below_drewN | apply below_drew1) | exact HB.out))) : w.heap.size ≤ gb390)); have n3_ := Aside0.mk ((by rw [hg]; exact (below_size (by repeat (first | (with_reducible first | exact HB.out | apply below_alloc | apply pw_below_drewN | apply below_drew1) | exact HB.out))) : w.heap.size ≤ gb390)); clear HB; have HB := n0_; have BK390 := n1_; have GW390 := n2_; have GE390 := n3_; clear n0_ n1_ n2_ n3_; clear hb hbox hg; have hcz32_0 : w31.cell? ⟨gb390, 0, none⟩ = some (.int .i64 0) := (blk_cell BK390.out 0).trans rfl; have hcz32_1 : w31.cell? ⟨gb390, 1, none⟩ = some (.int .i64 0) := (blk_cell BK390.out 1).trans rfl; have hcz32_2 : w31.cell? ⟨gb390, 2, none⟩ = some (.int .i64 0) := (blk_cell BK390.out 2).trans rfl; have hfz32_0 := blk_frozen BK390.out 0; have hfz32_1 := blk_frozen BK390.out 1; have hfz32_2 := blk_frozen BK390.out 2) | (go_at_call 80; (with_reducible refine (spec_l1In.calls ((rd_T116 l0 x4_1).f1) 1 3000 false _ A5.out).mono ?_); rintro e w' ⟨rfl, ⟨nd, rfl⟩⟩))
              go_ret
              exact ⟨by first | rfl | (simp [errW_none, errW_some] <;> rfl) | (simp [*, errW_none, errW_some] <;> rfl), by repeat (first | (with_reducible first | exact HB.out | apply below_alloc | apply pw_below_drewN | apply below_drew1 | refine below_set ?_ GE390.out) | exact HB.out)⟩
          · rw [if_neg c4] at H
            have c4b0 : (((rd_T116 l0 x4_1).f0) == x3_1) = false := beq_eq_false_iff_ne.mpr c4
            have c4b1 : (((rd_T116 l0 x4_1).f0) != x3_1) = true := bne_iff_ne.mpr c4
            obtain rfl := Option.some.inj H
            have p389 : 0 ≤ (x4_1 : Int) := of_decide_eq_true (by first | (with_reducible assumption) | assumption)
            have q389 : x4_1 < (l0.length : Int) := of_decide_eq_true (by first | (with_reducible assumption) | assumption)
            obtain ⟨ad389, e389, hx389_0, hx389_1, hx389_2⟩ := at_T116 HR0.out x4_1 p389 q389
            cases e389
            replace hx389_0 := (HB.out.cell (World.block_lt_of_cell? w _ hx389_0)).trans hx389_0
            replace hx389_1 := (HB.out.cell (World.block_lt_of_cell? w _ hx389_1)).trans hx389_1
            replace hx389_2 := (HB.out.cell (World.block_lt_of_cell? w _ hx389_2)).trans hx389_2
            replace p389 := eq_true p389
            replace q389 := eq_true q389
            go_wp2_with (first | ((with_reducible refine gate_dst (N := 5) rfl ?_); refine box_event ?hg (N := 5) ?hd (cs := #[.int .i64 0, .int .i64 0, .int .i64 0]) (t := 116) ?hr ?_; (case hd => rfl); (case hg => rfl); (case hr => first | (go_simp; done) | (go_simp; rfl)); intro gb390 hg w33 hbox hb; have n0_ := Aside0.mk (below_step (by repeat (first | (with_reducible first | exact HB.out | apply below_alloc | apply pw_below_drewN | apply below_drew1) | exact HB.out)) hb); have n1_ := Aside0.mk (hbox); have n2_ := Aside0.mk ((by rw [hg]; exact (below_size (by repeat (first | (with_reducible first | exact HB.out | apply below_alloc | apply pw_below_drewN | apply below_drew1) | exact HB.out))) : w.heap.size ≤ gb390)); have n3_ := Aside0.mk ((by rw [hg]; exact (below_size (by repeat (first | (with_reducible first | exact HB.out | apply below_alloc | apply pw_below_drewN | apply below_drew1) | exact HB.out))) : w.heap.size ≤ gb390)); clear HB; have HB := n0_; have BK390 := n1_; have GW390 := n2_; have GE390 := n3_; clear n0_ n1_ n2_ n3_; clear hb hbox hg; have hcz34_0 : w33.cell? ⟨gb390, 0, none⟩ = some (.int .i64 0) := (blk_cell BK390.out 0).trans rfl; have hcz34_1 : w33.cell? ⟨gb390, 1, none⟩ = some (.int .i64 0) := (blk_cell BK390.out 1).trans rfl; have hcz34_2 : w33.cell? ⟨gb390, 2, none⟩ = some (.int .i64 0) := (blk_cell BK390.out 2).trans rfl; have hfz34_0 := blk_frozen BK390.out 0; have hfz34_1 := blk_frozen BK390.out 1; have hfz34_2 := blk_frozen BK390.out 2))
            go_ret
            exact ⟨by first | rfl | (simp [errW_none, errW_some] <;> rfl) | (simp [*, errW_none, errW_some] <;> rfl), by repeat (first | (with_reducible first | exact HB.out | apply below_alloc | apply pw_below_drewN | apply below_drew1 | refine below_set ?_ GE390.out) | exact HB.out)⟩
        · rw [if_neg c3] at H
          exact absurd H (by simp)
      · rw [if_neg c2] at H
        have c2b0 : decide (x4_1 < (l0.length : Int)) = false := decide_eq_false c2
        clear c2
        obtain rfl := Option.some.inj H
        go_wp2
        go_ret
        exact ⟨by first | rfl | (simp [errW_none, errW_some] <;> rfl) | (simp [*, errW_none, errW_some] <;> rfl), by repeat (first | (with_reducible first | exact HB.out | apply below_alloc | apply pw_below_drewN | apply below_drew1) | exact HB.out)⟩

end Go.Proofs.Ytiophiipmgpaeaa.F
