-- Written for this claim by the kit's print.py out of the translation, called by wip/tools/fprint.py. Lean checks it.
import Derived.Test.YtiophiipmgpaeaaF0
import Derived.Test.YtiophiipmgpaeaaF6
namespace Go.Proofs.Ytiophiipmgpaeaa.F
open Go.RowKit Go.Proofs.YtiophiipmgpaeaaW.PrintWords Go.Proofs.YtiophiipmgpaeaaW.PrintLast Go.Proofs.YtiophiipmgpaeaaW.PrintMore
attribute [local go_sem] max2_int min2_int max_two min_two max_three min_three max_four min_four   -- for this text's walks alone
set_option linter.unusedVariables false
set_option linter.unusedSimpArgs false

/-! ### impl_IsPart: function 91 -/
def impl_IsPart.l0 : Nat → List (S116) → Int → List (S116) → Int → Int → Option (Bool)
  | 0, _, _, _, _, _ => none
  | k + 1, x0, x3, x7, x8, x9 => if x9 < x8 then (if 0 ≤ x9 then (if x9 < (x7.length : Int) then (if ((rd_T116 x7 x9).f0) = x3 then ((impl_InRange.f ((rd_T116 x7 x9).f1) 1 3000).bind fun t418 => (if t418 = true then (if (((rd_T116 x7 x9).f2) = 0) then (if ((rd_T116 x7 x9).f2) = 0 then (if x9 > 0 then (if 0 ≤ (wrap64 (x9 - 1)) then (if (wrap64 (x9 - 1)) < (x0.length : Int) then (if ((rd_T116 x0 (wrap64 (x9 - 1))).f2) = 0 then (some false) else (impl_IsPart.l0 k x0 (wrap64 (x3 + ((rd_T116 x7 x9).f1))) x7 x8 (wrap64 (x9 + 1)))) else (none)) else (none)) else (impl_IsPart.l0 k x0 (wrap64 (x3 + ((rd_T116 x7 x9).f1))) x7 x8 (wrap64 (x9 + 1)))) else (impl_IsPart.l0 k x0 (wrap64 (x3 + ((rd_T116 x7 x9).f1))) x7 x8 (wrap64 (x9 + 1)))) else ((impl_InRange.f ((rd_T116 x7 x9).f2) 21 108).bind fun t420 => (if t420 = true then (if ((rd_T116 x7 x9).f1) > 96 then (some false) else (if ((rd_T116 x7 x9).f2) = 0 then (if x9 > 0 then (if 0 ≤ (wrap64 (x9 - 1)) then (if (wrap64 (x9 - 1)) < (x0.length : Int) then (if ((rd_T116 x0 (wrap64 (x9 - 1))).f2) = 0 then (some false) else (impl_IsPart.l0 k x0 (wrap64 (x3 + ((rd_T116 x7 x9).f1))) x7 x8 (wrap64 (x9 + 1)))) else (none)) else (none)) else (impl_IsPart.l0 k x0 (wrap64 (x3 + ((rd_T116 x7 x9).f1))) x7 x8 (wrap64 (x9 + 1)))) else (impl_IsPart.l0 k x0 (wrap64 (x3 + ((rd_T116 x7 x9).f1))) x7 x8 (wrap64 (x9 + 1))))) else (some false)))) else (some false))) else (some false)) else (none)) else (none)) else (some true)
def impl_IsPart.f (k : Nat) (l0 : List (S116)) : Option (Bool) := impl_IsPart.l0 k l0 0 l0 (l0.length : Int) 0
theorem impl_IsPart.mono_l : ∀ k, (∀ y0 y1 y2 y3 y4, LeO (impl_IsPart.l0 k y0 y1 y2 y3 y4) (impl_IsPart.l0 (k + 1) y0 y1 y2 y3 y4))
  | 0 => fun _ _ _ _ _ r h => by simp [impl_IsPart.l0] at h
  | k + 1 => by
    have ih0 := impl_IsPart.mono_l k
    · intro y0 y1 y2 y3 y4
      unfold impl_IsPart.l0
      repeat' first
      | (with_reducible exact ih0 _ _ _ _ _)
      | (with_reducible exact LeO.refl _)
      | (with_reducible exact LeO.none _)
      | (with_reducible refine LeO.ite ?_ ?_)
      | (with_reducible refine LeO.bind ?_ (fun _ => ?_))
      | exact ih0 _ _ _ _ _
      | exact LeO.none _
      | refine LeO.ite ?_ ?_
      | refine LeO.bind ?_ (fun _ => ?_)
theorem impl_IsPart.mono : ∀ a0 k, LeO (impl_IsPart.f k a0) (impl_IsPart.f (k + 1) a0) := by
  intro a0 k
  have ih0 := impl_IsPart.mono_l k
  unfold impl_IsPart.f
  repeat' first
      | (with_reducible exact ih0 _ _ _ _ _)
      | (with_reducible exact LeO.refl _)
      | (with_reducible exact LeO.none _)
      | (with_reducible refine LeO.ite ?_ ?_)
      | (with_reducible refine LeO.bind ?_ (fun _ => ?_))
      | exact ih0 _ _ _ _ _
      | exact LeO.none _
      | refine LeO.ite ?_ ?_
      | refine LeO.bind ?_ (fun _ => ?_)
set_option maxHeartbeats 8000000 in
set_option maxRecDepth 100000 in
theorem impl_IsPart.calls (k : Nat) (A0 : Option Addr) (c0 : Nat) (l0 : List (S116)) (r : Bool) (w : World) (hr0 : Kd.C k116 w A0 l0.length l0) (hc0 : l0.length ≤ c0) (h : impl_IsPart.f k l0 = some r) :
    Calls Try.prog 91 #[.slice A0 l0.length c0] w fun e w' => e = .returned (.bool r) ∧ Below w.heap.size w w' := by
  have hu116 := Try.underlying116
  have HR0 := Aside0.mk hr0
  have HC0 := Aside0.mk hc0
  clear hr0 hc0
  have HB := Aside0.mk (Below.refl w.heap.size w)
  have H : (impl_IsPart.l0 k l0 0 l0 (l0.length : Int) 0) = some r := h
  clear h
  have H' := Aside0.mk H
  clear H
  go_enter Try.func91, Try.ntmps91
  go_wp2
  go_loopg [3, 9] k (fun kq v3 v9 w' => ∃ (x3_1 : Int) (x9_1 : Int), v3 = .int .i64 x3_1 ∧ v9 = .int .i64 x9_1 ∧ Aside0 (impl_IsPart.l0 kq l0 x3_1 l0 (l0.length : Int) x9_1 = some r) ∧ Aside0 (kq ≤ k) ∧ Aside0 (Below w.heap.size w w'))
  case atStart => exact ⟨(0), (0), (by first | rfl | (simp; done) | (simp [*]; done)), (by first | rfl | (simp; done) | (simp [*]; done)), H', ⟨Nat.le_refl _⟩, ⟨by repeat (first | (with_reducible first | exact HB.out | apply below_alloc | apply pw_below_drewN | apply below_drew1) | exact HB.out)⟩⟩
  case round =>
    clear H'
    obtain ⟨x3_1, x9_1, rfl, rfl, HA, HK1, HB⟩ := hrel
    cases gk with
    | zero => exact absurd HA.out (by simp [impl_IsPart.l0])
    | succ k1 =>
      have H := HA.out
      clear HA
      simp only [impl_IsPart.l0] at H
      by_cases c2 : x9_1 < (l0.length : Int)
      · rw [if_pos c2] at H
        have c2b0 : decide (x9_1 < (l0.length : Int)) = true := decide_eq_true c2
        clear c2
        by_cases c3 : 0 ≤ x9_1
        · rw [if_pos c3] at H
          have c3b0 : decide (0 ≤ x9_1) = true := decide_eq_true c3
          clear c3
          by_cases c4 : x9_1 < (l0.length : Int)
          · rw [if_pos c4] at H
            have c4b0 : decide (x9_1 < (l0.length : Int)) = true := decide_eq_true c4
            clear c4
            by_cases c5 : ((rd_T116 l0 x9_1).f0) = x3_1
            · rw [if_pos c5] at H
              have c5b0 : (((rd_T116 l0 x9_1).f0) == x3_1) = true := beq_iff_eq.mpr c5
              have c5b1 : (((rd_T116 l0 x9_1).f0) != x3_1) = false := bne_eq_false_iff_eq.mpr c5
              clear c5
              replace H := Option.bind_eq_some_iff.mp H
              obtain ⟨t418, A60, H⟩ := H
              replace H : (if t418 = true then (if (((rd_T116 l0 x9_1).f2) = 0) then (if ((rd_T116 l0 x9_1).f2) = 0 then (if x9_1 > 0 then (if 0 ≤ (wrap64 (x9_1 - 1)) then (if (wrap64 (x9_1 - 1)) < (l0.length : Int) then (if ((rd_T116 l0 (wrap64 (x9_1 - 1))).f2) = 0 then (some false) else (impl_IsPart.l0 k1 l0 (wrap64 (x3_1 + ((rd_T116 l0 x9_1).f1))) l0 (l0.length : Int) (wrap64 (x9_1 + 1)))) else (none)) else (none)) else (impl_IsPart.l0 k1 l0 (wrap64 (x3_1 + ((rd_T116 l0 x9_1).f1))) l0 (l0.length : Int) (wrap64 (x9_1 + 1)))) else (impl_IsPart.l0 k1 l0 (wrap64 (x3_1 + ((rd_T116 l0 x9_1).f1))) l0 (l0.length : Int) (wrap64 (x9_1 + 1)))) else ((impl_InRange.f ((rd_T116 l0 x9_1).f2) 21 108).bind fun t420 => (if t420 = true then (if ((rd_T116 l0 x9_1).f1) > 96 then (some false) else (if ((rd_T116 l0 x9_1).f2) = 0 then (if x9_1 > 0 then (if 0 ≤ (wrap64 (x9_1 - 1)) then (if (wrap64 (x9_1 - 1)) < (l0.length : Int) then (if ((rd_T116 l0 (wrap64 (x9_1 - 1))).f2) = 0 then (some false) else (impl_IsPart.l0 k1 l0 (wrap64 (x3_1 + ((rd_T116 l0 x9_1).f1))) l0 (l0.length : Int) (wrap64 (x9_1 + 1)))) else (none)) else (none)) else (impl_IsPart.l0 k1 l0 (wrap64 (x3_1 + ((rd_T116 l0 x9_1).f1))) l0 (l0.length : Int) (wrap64 (x9_1 + 1)))) else (impl_IsPart.l0 k1 l0 (wrap64 (x3_1 + ((rd_T116 l0 x9_1).f1))) l0 (l0.length : Int) (wrap64 (x9_1 + 1))))) else (some false)))) else (some false)) = some r := H
              have A6 := Aside0.mk A60
              clear A60
              by_cases c7 : t418 = true
              · subst c7
                have H1 : (if (((rd_T116 l0 x9_1).f2) = 0) then (if ((rd_T116 l0 x9_1).f2) = 0 then (if x9_1 > 0 then (if 0 ≤ (wrap64 (x9_1 - 1)) then (if (wrap64 (x9_1 - 1)) < (l0.length : Int) then (if ((rd_T116 l0 (wrap64 (x9_1 - 1))).f2) = 0 then (some false) else (impl_IsPart.l0 k1 l0 (wrap64 (x3_1 + ((rd_T116 l0 x9_1).f1))) l0 (l0.length : Int) (wrap64 (x9_1 + 1)))) else (none)) else (none)) else (impl_IsPart.l0 k1 l0 (wrap64 (x3_1 + ((rd_T116 l0 x9_1).f1))) l0 (l0.length : Int) (wrap64 (x9_1 + 1)))) else (impl_IsPart.l0 k1 l0 (wrap64 (x3_1 + ((rd_T116 l0 x9_1).f1))) l0 (l0.length : Int) (wrap64 (x9_1 + 1)))) else ((impl_InRange.f ((rd_T116 l0 x9_1).f2) 21 108).bind fun t420 => (if t420 = true then (if ((rd_T116 l0 x9_1).f1) > 96 then (some false) else (if ((rd_T116 l0 x9_1).f2) = 0 then (if x9_1 > 0 then (if 0 ≤ (wrap64 (x9_1 - 1)) then (if (wrap64 (x9_1 - 1)) < (l0.length : Int) then (if ((rd_T116 l0 (wrap64 (x9_1 - 1))).f2) = 0 then (some false) else (impl_IsPart.l0 k1 l0 (wrap64 (x3_1 + ((rd_T116 l0 x9_1).f1))) l0 (l0.length : Int) (wrap64 (x9_1 + 1)))) else (none)) else (none)) else (impl_IsPart.l0 k1 l0 (wrap64 (x3_1 + ((rd_T116 l0 x9_1).f1))) l0 (l0.length : Int) (wrap64 (x9_1 + 1)))) else (impl_IsPart.l0 k1 l0 (wrap64 (x3_1 + ((rd_T116 l0 x9_1).f1))) l0 (l0.length : Int) (wrap64 (x9_1 + 1))))) else (some false)))) = some r := by rw [if_pos rfl] at H; exact H
                clear H
                have H := H1
                clear H1
                by_cases c8 : (((rd_T116 l0 x9_1).f2) = 0)
                · rw [if_pos c8] at H
                  have c8b0 : (((rd_T116 l0 x9_1).f2) == 0) = true := beq_iff_eq.mpr c8
                  have c8b1 : (((rd_T116 l0 x9_1).f2) != 0) = false := bne_eq_false_iff_eq.mpr c8
                  clear c8
                  by_cases c9 : ((rd_T116 l0 x9_1).f2) = 0
                  · rw [if_pos c9] at H
                    have c9b0 : (((rd_T116 l0 x9_1).f2) == 0) = true := beq_iff_eq.mpr c9
                    have c9b1 : (((rd_T116 l0 x9_1).f2) != 0) = false := bne_eq_false_iff_eq.mpr c9
                    clear c9
                    by_cases c10 : x9_1 > 0
                    · rw [if_pos c10] at H
                      have c10b0 : decide (0 < x9_1) = true := decide_eq_true c10
                      clear c10
                      obtain ⟨ji11, hji11⟩ : ∃ j_ : Int, (wrap64 (x9_1 - 1)) = j_ := ⟨_, rfl⟩
                      replace H : (if 0 ≤ (ji11) then (if (ji11) < (l0.length : Int) then (if ((rd_T116 l0 (ji11)).f2) = 0 then (some false) else (impl_IsPart.l0 k1 l0 (wrap64 (x3_1 + ((rd_T116 l0 x9_1).f1))) l0 (l0.length : Int) (wrap64 (x9_1 + 1)))) else (none)) else (none)) = some r := by first | (rw [hji11] at H; exact H) | (simp only [hji11] at H ⊢; exact H)
                      (try rw [hji11] at A6)
                      have hji11w : (IntKind.i64.wrap (x9_1 - 1)) = ji11 := (i64_w _).trans hji11
                      by_cases c12 : 0 ≤ (ji11)
                      · rw [if_pos c12] at H
                        have c12b0 : decide (0 ≤ (ji11)) = true := decide_eq_true c12
                        clear c12
                        by_cases c13 : (ji11) < (l0.length : Int)
                        · rw [if_pos c13] at H
                          have c13b0 : decide ((ji11) < (l0.length : Int)) = true := decide_eq_true c13
                          clear c13
                          by_cases c14 : ((rd_T116 l0 (ji11)).f2) = 0
                          · rw [if_pos c14] at H
                            have c14b0 : (((rd_T116 l0 (ji11)).f2) == 0) = true := beq_iff_eq.mpr c14
                            have c14b1 : (((rd_T116 l0 (ji11)).f2) != 0) = false := bne_eq_false_iff_eq.mpr c14
                            clear c14
                            obtain rfl := Option.some.inj H
                            have p416 : 0 ≤ (x9_1 : Int) := of_decide_eq_true (by first | (with_reducible assumption) | assumption)
                            have q416 : x9_1 < (l0.length : Int) := of_decide_eq_true (by first | (with_reducible assumption) | assumption)
                            obtain ⟨ad416, e416, hx416_0, hx416_1, hx416_2⟩ := at_T116 HR0.out x9_1 p416 q416
                            cases e416
                            replace hx416_0 := (HB.out.cell (World.block_lt_of_cell? w _ hx416_0)).trans hx416_0
                            replace hx416_1 := (HB.out.cell (World.block_lt_of_cell? w _ hx416_1)).trans hx416_1
                            replace hx416_2 := (HB.out.cell (World.block_lt_of_cell? w _ hx416_2)).trans hx416_2
                            replace p416 := eq_true p416
                            replace q416 := eq_true q416
                            go_wp2_with (first | ((with_reducible refine gate_dst (N := 5) rfl ?_); refine box_event ?hg (N := 5) ?hd (cs := #[.int .i64 0, .int .i64 0, .int .i64 0]) (t := 116) ?hr ?_; (case hd => rfl); (case hg => rfl); (case hr => first | (go_simp; done) | (go_simp; rfl)); intro gb417 hg w15 hbox hb; have n0_ := Aside0.mk (below_step (by repeat (first | (with_reducible first | exact HB.out | apply below_alloc | apply pw_below_drewN | apply below_drew1) | exact HB.out)) hb); have n1_ := Aside0.mk (hbox); have n2_ := Aside0.mk ((by rw [hg]; exact (below_size (by repeat (first | (with_reducible first | exact HB.out | apply below_alloc | apply pw_below_drewN | apply below_drew1) | exact HB.out))) : w.heap.size ≤ gb417)); have n3_ := Aside0.mk ((by rw [hg]; exact (below_size (by repeat (first | (with_reducible first | exact HB.out | apply below_alloc | apply pw_below_drewN | apply below_drew1) | exact HB.out))) : w.heap.size ≤ gb417)); clear HB; have HB := n0_; have BK417 := n1_; have GW417 := n2_; have GE417 := n3_; clear n0_ n1_ n2_ n3_; clear hb hbox hg; have hcz16_0 : w15.cell? ⟨gb417, 0, none⟩ = some (.int .i64 0) := (blk_cell BK417.out 0).trans rfl; have hcz16_1 : w15.cell? ⟨gb417, 1, none⟩ = some (.int .i64 0) := (blk_cell BK417.out 1).trans rfl; have hcz16_2 : w15.cell? ⟨gb417, 2, none⟩ = some (.int .i64 0) := (blk_cell BK417.out 2).trans rfl; have hfz16_0 := blk_frozen BK417.out 0; have hfz16_1 := blk_frozen BK417.out 1; have hfz16_2 := blk_frozen BK417.out 2) | (go_at_call 82; (with_reducible refine (impl_InRange.calls ((rd_T116 l0 x9_1).f1) 1 3000 true _ A6.out).mono ?_); rintro e w' ⟨rfl, ⟨nd, rfl⟩⟩; have p419 : 0 ≤ ((ji11) : Int) := of_decide_eq_true (by first | (with_reducible assumption) | assumption); have q419 : (ji11) < (l0.length : Int) := of_decide_eq_true (by first | (with_reducible assumption) | assumption); obtain ⟨ad419, e419, hx419_0, hx419_1, hx419_2⟩ := at_T116 HR0.out (ji11) p419 q419; obtain rfl : ad416 = ad419 := (by injection e419); have hn419_0 : ad416.block ≠ gb417 := Nat.ne_of_lt (Nat.lt_of_lt_of_le (by have := World.block_lt_of_cell? _ _ hx419_0; first | rwa [add_block] at this | exact this) GW417.out); have hn419_1 : ad416.block ≠ gb417 := Nat.ne_of_lt (Nat.lt_of_lt_of_le (by have := World.block_lt_of_cell? _ _ hx419_0; first | rwa [add_block] at this | exact this) GW417.out); have hn419_2 : ad416.block ≠ gb417 := Nat.ne_of_lt (Nat.lt_of_lt_of_le (by have := World.block_lt_of_cell? _ _ hx419_0; first | rwa [add_block] at this | exact this) GW417.out); replace hx419_0 := (HB.out.cell (World.block_lt_of_cell? w _ hx419_0)).trans hx419_0; replace hx419_1 := (HB.out.cell (World.block_lt_of_cell? w _ hx419_1)).trans hx419_1; replace hx419_2 := (HB.out.cell (World.block_lt_of_cell? w _ hx419_2)).trans hx419_2; replace hx419_0 := (cell_far (p := ⟨gb417, 0, none⟩) (by first | (rw [add_block]; exact hn419_0) | (show (Addr.add _ _).block ≠ _; rw [add_block]; exact hn419_0) | exact hn419_0) (.int .i64 ((rd_T116 l0 x9_1).f0))).trans hx419_0; replace hx419_1 := (cell_far (p := ⟨gb417, 0, none⟩) (by first | (rw [add_block]; exact hn419_0) | (show (Addr.add _ _).block ≠ _; rw [add_block]; exact hn419_0) | exact hn419_0) (.int .i64 ((rd_T116 l0 x9_1).f0))).trans hx419_1; replace hx419_2 := (cell_far (p := ⟨gb417, 0, none⟩) (by first | (rw [add_block]; exact hn419_0) | (show (Addr.add _ _).block ≠ _; rw [add_block]; exact hn419_0) | exact hn419_0) (.int .i64 ((rd_T116 l0 x9_1).f0))).trans hx419_2; replace hx419_0 := (cell_far (p := ⟨gb417, 1, none⟩) (by first | (rw [add_block]; exact hn419_1) | (show (Addr.add _ _).block ≠ _; rw [add_block]; exact hn419_1) | exact hn419_1) (.int .i64 ((rd_T116 l0 x9_1).f1))).trans hx419_0; replace hx419_1 := (cell_far (p := ⟨gb417, 1, none⟩) (by first | (rw [add_block]; exact hn419_1) | (show (Addr.add _ _).block ≠ _; rw [add_block]; exact hn419_1) | exact hn419_1) (.int .i64 ((rd_T116 l0 x9_1).f1))).trans hx419_1; replace hx419_2 := (cell_far (p := ⟨gb417, 1, none⟩) (by first | (rw [add_block]; exact hn419_1) | (show (Addr.add _ _).block ≠ _; rw [add_block]; exact hn419_1) | exact hn419_1) (.int .i64 ((rd_T116 l0 x9_1).f1))).trans hx419_2; replace hx419_0 := (cell_far (p := ⟨gb417, 2, none⟩) (by first | (rw [add_block]; exact hn419_2) | (show (Addr.add _ _).block ≠ _; rw [add_block]; exact hn419_2) | exact hn419_2) (.int .i64 ((rd_T116 l0 x9_1).f2))).trans hx419_0; replace hx419_1 := (cell_far (p := ⟨gb417, 2, none⟩) (by first | (rw [add_block]; exact hn419_2) | (show (Addr.add _ _).block ≠ _; rw [add_block]; exact hn419_2) | exact hn419_2) (.int .i64 ((rd_T116 l0 x9_1).f2))).trans hx419_1; replace hx419_2 := (cell_far (p := ⟨gb417, 2, none⟩) (by first | (rw [add_block]; exact hn419_2) | (show (Addr.add _ _).block ≠ _; rw [add_block]; exact hn419_2) | exact hn419_2) (.int .i64 ((rd_T116 l0 x9_1).f2))).trans hx419_2; clear hn419_0; clear hn419_1; clear hn419_2; replace p419 := eq_true p419; replace q419 := eq_true q419))
                            go_ret
                            exact ⟨by first | rfl | (simp [errW_none, errW_some] <;> rfl) | (simp only [← hji11]; first | rfl | (simp [errW_none, errW_some] <;> rfl)) | (simp [*, errW_none, errW_some] <;> rfl), by repeat (first | (with_reducible first | exact HB.out | apply below_alloc | apply pw_below_drewN | apply below_drew1 | refine below_set ?_ GE417.out) | exact HB.out)⟩
                          · rw [if_neg c14] at H
                            have c14b0 : (((rd_T116 l0 (ji11)).f2) == 0) = false := beq_eq_false_iff_ne.mpr c14
                            have c14b1 : (((rd_T116 l0 (ji11)).f2) != 0) = true := bne_iff_ne.mpr c14
                            have H' := Aside0.mk H
                            clear H
                            have p416 : 0 ≤ (x9_1 : Int) := of_decide_eq_true (by first | (with_reducible assumption) | assumption)
                            have q416 : x9_1 < (l0.length : Int) := of_decide_eq_true (by first | (with_reducible assumption) | assumption)
                            obtain ⟨ad416, e416, hx416_0, hx416_1, hx416_2⟩ := at_T116 HR0.out x9_1 p416 q416
                            cases e416
                            replace hx416_0 := (HB.out.cell (World.block_lt_of_cell? w _ hx416_0)).trans hx416_0
                            replace hx416_1 := (HB.out.cell (World.block_lt_of_cell? w _ hx416_1)).trans hx416_1
                            replace hx416_2 := (HB.out.cell (World.block_lt_of_cell? w _ hx416_2)).trans hx416_2
                            replace p416 := eq_true p416
                            replace q416 := eq_true q416
                            go_wp2_with (first | ((with_reducible refine gate_dst (N := 5) rfl ?_); refine box_event ?hg (N := 5) ?hd (cs := #[.int .i64 0, .int .i64 0, .int .i64 0]) (t := 116) ?hr ?_; (case hd => rfl); (case hg => rfl); (case hr => first | (go_simp; done) | (go_simp; rfl)); intro gb417 hg w17 hbox hb; have n0_ := Aside0.mk (below_step (by repeat (first | (with_reducible first | exact HB.out | apply below_alloc | apply pw_below_drewN | apply below_drew1) | exact HB.out)) hb); have n1_ := Aside0.mk (hbox); have n2_ := Aside0.mk ((by rw [hg]; exact (below_size (by repeat (first | (with_reducible first | exact HB.out | apply below_alloc | apply pw_below_drewN | apply below_drew1) | exact HB.out))) : w.heap.size ≤ gb417)); have n3_ := Aside0.mk ((by rw [hg]; exact (below_size (by repeat (first | (with_reducible first | exact HB.out | apply below_alloc | apply pw_below_drewN | apply below_drew1) | exact HB.out))) : w.heap.size ≤ gb417)); clear HB; have HB := n0_; have BK417 := n1_; have GW417 := n2_; have GE417 := n3_; clear n0_ n1_ n2_ n3_; clear hb hbox hg; have hcz18_0 : w17.cell? ⟨gb417, 0, none⟩ = some (.int .i64 0) := (blk_cell BK417.out 0).trans rfl; have hcz18_1 : w17.cell? ⟨gb417, 1, none⟩ = some (.int .i64 0) := (blk_cell BK417.out 1).trans rfl; have hcz18_2 : w17.cell? ⟨gb417, 2, none⟩ = some (.int .i64 0) := (blk_cell BK417.out 2).trans rfl; have hfz18_0 := blk_frozen BK417.out 0; have hfz18_1 := blk_frozen BK417.out 1; have hfz18_2 := blk_frozen BK417.out 2) | (go_at_call 82; (with_reducible refine (impl_InRange.calls ((rd_T116 l0 x9_1).f1) 1 3000 true _ A6.out).mono ?_); rintro e w' ⟨rfl, ⟨nd, rfl⟩⟩; have p419 : 0 ≤ ((ji11) : Int) := of_decide_eq_true (by first | (with_reducible assumption) | assumption); have q419 : (ji11) < (l0.length : Int) := of_decide_eq_true (by first | (with_reducible assumption) | assumption); obtain ⟨ad419, e419, hx419_0, hx419_1, hx419_2⟩ := at_T116 HR0.out (ji11) p419 q419; obtain rfl : ad416 = ad419 := (by injection e419); have hn419_0 : ad416.block ≠ gb417 := Nat.ne_of_lt (Nat.lt_of_lt_of_le (by have := World.block_lt_of_cell? _ _ hx419_0; first | rwa [add_block] at this | exact this) GW417.out); have hn419_1 : ad416.block ≠ gb417 := Nat.ne_of_lt (Nat.lt_of_lt_of_le (by have := World.block_lt_of_cell? _ _ hx419_0; first | rwa [add_block] at this | exact this) GW417.out); have hn419_2 : ad416.block ≠ gb417 := Nat.ne_of_lt (Nat.lt_of_lt_of_le (by have := World.block_lt_of_cell? _ _ hx419_0; first | rwa [add_block] at this | exact this) GW417.out); replace hx419_0 := (HB.out.cell (World.block_lt_of_cell? w _ hx419_0)).trans hx419_0; replace hx419_1 := (HB.out.cell (World.block_lt_of_cell? w _ hx419_1)).trans hx419_1; replace hx419_2 := (HB.out.cell (World.block_lt_of_cell? w _ hx419_2)).trans hx419_2; replace hx419_0 := (cell_far (p := ⟨gb417, 0, none⟩) (by first | (rw [add_block]; exact hn419_0) | (show (Addr.add _ _).block ≠ _; rw [add_block]; exact hn419_0) | exact hn419_0) (.int .i64 ((rd_T116 l0 x9_1).f0))).trans hx419_0; replace hx419_1 := (cell_far (p := ⟨gb417, 0, none⟩) (by first | (rw [add_block]; exact hn419_0) | (show (Addr.add _ _).block ≠ _; rw [add_block]; exact hn419_0) | exact hn419_0) (.int .i64 ((rd_T116 l0 x9_1).f0))).trans hx419_1; replace hx419_2 := (cell_far (p := ⟨gb417, 0, none⟩) (by first | (rw [add_block]; exact hn419_0) | (show (Addr.add _ _).block ≠ _; rw [add_block]; exact hn419_0) | exact hn419_0) (.int .i64 ((rd_T116 l0 x9_1).f0))).trans hx419_2; replace hx419_0 := (cell_far (p := ⟨gb417, 1, none⟩) (by first | (rw [add_block]; exact hn419_1) | (show (Addr.add _ _).block ≠ _; rw [add_block]; exact hn419_1) | exact hn419_1) (.int .i64 ((rd_T116 l0 x9_1).f1))).trans hx419_0; replace hx419_1 := (cell_far (p := ⟨gb417, 1, none⟩) (by first | (rw [add_block]; exact hn419_1) | (show (Addr.add _ _).block ≠ _; rw [add_block]; exact hn419_1) | exact hn419_1) (.int .i64 ((rd_T116 l0 x9_1).f1))).trans hx419_1; replace hx419_2 := (cell_far (p := ⟨gb417, 1, none⟩) (by first | (rw [add_block]; exact hn419_1) | (show (Addr.add _ _).block ≠ _; rw [add_block]; exact hn419_1) | exact hn419_1) (.int .i64 ((rd_T116 l0 x9_1).f1))).trans hx419_2; replace hx419_0 := (cell_far (p := ⟨gb417, 2, none⟩) (by first | (rw [add_block]; exact hn419_2) | (show (Addr.add _ _).block ≠ _; rw [add_block]; exact hn419_2) | exact hn419_2) (.int .i64 ((rd_T116 l0 x9_1).f2))).trans hx419_0; replace hx419_1 := (cell_far (p := ⟨gb417, 2, none⟩) (by first | (rw [add_block]; exact hn419_2) | (show (Addr.add _ _).block ≠ _; rw [add_block]; exact hn419_2) | exact hn419_2) (.int .i64 ((rd_T116 l0 x9_1).f2))).trans hx419_1; replace hx419_2 := (cell_far (p := ⟨gb417, 2, none⟩) (by first | (rw [add_block]; exact hn419_2) | (show (Addr.add _ _).block ≠ _; rw [add_block]; exact hn419_2) | exact hn419_2) (.int .i64 ((rd_T116 l0 x9_1).f2))).trans hx419_2; clear hn419_0; clear hn419_1; clear hn419_2; replace p419 := eq_true p419; replace q419 := eq_true q419))
                            go_roundg k1
                            case measure => have := HK1.out; omega
                            case rel => exact ⟨(wrap64 (x3_1 + ((rd_T116 l0 x9_1).f1))), (wrap64 (x9_1 + 1)), (by first | rfl | (simp; done) | (simp [*]; done)), (by first | rfl | (simp; done) | (simp [*]; done)), H', ⟨by have := HK1.out; omega⟩, ⟨by repeat (first | (with_reducible first | exact HB.out | apply below_alloc | apply pw_below_drewN | apply below_drew1 | refine below_set ?_ GE417.out) | exact HB.out)⟩⟩
                        · rw [if_neg c13] at H
                          exact absurd H (by simp)
                      · rw [if_neg c12] at H
                        exact absurd H (by simp)
                    · rw [if_neg c10] at H
                      have c10b0 : decide (0 < x9_1) = false := decide_eq_false c10
                      clear c10
                      have H' := Aside0.mk H
                      clear H
                      have p416 : 0 ≤ (x9_1 : Int) := of_decide_eq_true (by first | (with_reducible assumption) | assumption)
                      have q416 : x9_1 < (l0.length : Int) := of_decide_eq_true (by first | (with_reducible assumption) | assumption)
                      obtain ⟨ad416, e416, hx416_0, hx416_1, hx416_2⟩ := at_T116 HR0.out x9_1 p416 q416
                      cases e416
                      replace hx416_0 := (HB.out.cell (World.block_lt_of_cell? w _ hx416_0)).trans hx416_0
                      replace hx416_1 := (HB.out.cell (World.block_lt_of_cell? w _ hx416_1)).trans hx416_1
                      replace hx416_2 := (HB.out.cell (World.block_lt_of_cell? w _ hx416_2)).trans hx416_2
                      replace p416 := eq_true p416
                      replace q416 := eq_true q416
                      go_wp2_with (first | ((with_reducible refine gate_dst (N := 5) rfl ?_); refine box_event ?hg (N := 5) ?hd (cs := #[.int .i64 0, .int .i64 0, .int .i64 0]) (t := 116) ?hr ?_; (case hd => rfl); (case hg => rfl); (case hr => first | (go_simp; done) | (go_simp; rfl)); intro gb417 hg w19 hbox hb; have n0_ := Aside0.mk (below_step (by repeat (first | (with_reducible first | exact HB.out | apply below_alloc | apply pw_below_drewN | apply below_drew1) | exact HB.out)) hb); have n1_ := Aside0.mk (hbox); have n2_ := Aside0.mk ((by rw [hg]; exact (below_size (by repeat (first | (with_reducible first | exact HB.out | apply below_alloc | apply pw_below_drewN | apply below_drew1) | exact HB.out))) : w.heap.size ≤ gb417)); have n3_ := Aside0.mk ((by rw [hg]; exact (below_size (by repeat (first | (with_reducible first | exact HB.out | apply below_alloc | apply pw_below_drewN | apply below_drew1) | exact HB.out))) : w.heap.size ≤ gb417)); clear HB; have HB := n0_; have BK417 := n1_; have GW417 := n2_; have GE417 := n3_; clear n0_ n1_ n2_ n3_; clear hb hbox hg; have hcz20_0 : w19.cell? ⟨gb417, 0, none⟩ = some (.int .i64 0) := (blk_cell BK417.out 0).trans rfl; have hcz20_1 : w19.cell? ⟨gb417, 1, none⟩ = some (.int .i64 0) := (blk_cell BK417.out 1).trans rfl; have hcz20_2 : w19.cell? ⟨gb417, 2, none⟩ = some (.int .i64 0) := (blk_cell BK417.out 2).trans rfl; have hfz20_0 := blk_frozen BK417.out 0; have hfz20_1 := blk_frozen BK417.out 1; have hfz20_2 := blk_frozen BK417.out 2) | (go_at_call 82; (with_reducible refine (impl_InRange.calls ((rd_T116 l0 x9_1).f1) 1 3000 true _ A6.out).mono ?_); rintro e w' ⟨rfl, ⟨nd, rfl⟩⟩))
                      go_roundg k1
                      case measure => have := HK1.out; omega
                      case rel => exact ⟨(wrap64 (x3_1 + ((rd_T116 l0 x9_1).f1))), (wrap64 (x9_1 + 1)), (by first | rfl | (simp; done) | (simp [*]; done)), (by first | rfl | (simp; done) | (simp [*]; done)), H', ⟨by have := HK1.out; omega⟩, ⟨by repeat (first | (with_reducible first | exact HB.out | apply below_alloc | apply pw_below_drewN | apply below_drew1 | refine below_set ?_ GE417.out) | exact HB.out)⟩⟩
                  · exact absurd (beq_iff_eq.mp c8b0) c9
                · rw [if_neg c8] at H
                  have c8b0 : (((rd_T116 l0 x9_1).f2) == 0) = false := beq_eq_false_iff_ne.mpr c8
                  have c8b1 : (((rd_T116 l0 x9_1).f2) != 0) = true := bne_iff_ne.mpr c8
                  replace H := Option.bind_eq_some_iff.mp H
                  obtain ⟨t420, A230, H⟩ := H
                  replace H : (if t420 = true then (if ((rd_T116 l0 x9_1).f1) > 96 then (some false) else (if ((rd_T116 l0 x9_1).f2) = 0 then (if x9_1 > 0 then (if 0 ≤ (wrap64 (x9_1 - 1)) then (if (wrap64 (x9_1 - 1)) < (l0.length : Int) then (if ((rd_T116 l0 (wrap64 (x9_1 - 1))).f2) = 0 then (some false) else (impl_IsPart.l0 k1 l0 (wrap64 (x3_1 + ((rd_T116 l0 x9_1).f1))) l0 (l0.length : Int) (wrap64 (x9_1 + 1)))) else (none)) else (none)) else (impl_IsPart.l0 k1 l0 (wrap64 (x3_1 + ((rd_T116 l0 x9_1).f1))) l0 (l0.length : Int) (wrap64 (x9_1 + 1)))) else (impl_IsPart.l0 k1 l0 (wrap64 (x3_1 + ((rd_T116 l0 x9_1).f1))) l0 (l0.length : Int) (wrap64 (x9_1 + 1))))) else (some false)) = some r := H
                  have A23 := Aside0.mk A230
                  clear A230
                  by_cases c24 : t420 = true
                  · subst c24
                    have H1 : (if ((rd_T116 l0 x9_1).f1) > 96 then (some false) else (if ((rd_T116 l0 x9_1).f2) = 0 then (if x9_1 > 0 then (if 0 ≤ (wrap64 (x9_1 - 1)) then (if (wrap64 (x9_1 - 1)) < (l0.length : Int) then (if ((rd_T116 l0 (wrap64 (x9_1 - 1))).f2) = 0 then (some false) else (impl_IsPart.l0 k1 l0 (wrap64 (x3_1 + ((rd_T116 l0 x9_1).f1))) l0 (l0.length : Int) (wrap64 (x9_1 + 1)))) else (none)) else (none)) else (impl_IsPart.l0 k1 l0 (wrap64 (x3_1 + ((rd_T116 l0 x9_1).f1))) l0 (l0.length : Int) (wrap64 (x9_1 + 1)))) else (impl_IsPart.l0 k1 l0 (wrap64 (x3_1 + ((rd_T116 l0 x9_1).f1))) l0 (l0.length : Int) (wrap64 (x9_1 + 1))))) = some r := by rw [if_pos rfl] at H; exact H
                    clear H
                    have H := H1
                    clear H1
                    by_cases c25 : ((rd_T116 l0 x9_1).f1) > 96
                    · rw [if_pos c25] at H
                      have c25b0 : decide (96 < ((rd_T116 l0 x9_1).f1)) = true := decide_eq_true c25
                      clear c25
                      obtain rfl := Option.some.inj H
                      have p416 : 0 ≤ (x9_1 : Int) := of_decide_eq_true (by first | (with_reducible assumption) | assumption)
                      have q416 : x9_1 < (l0.length : Int) := of_decide_eq_true (by first | (with_reducible assumption) | assumption)
                      obtain ⟨ad416, e416, hx416_0, hx416_1, hx416_2⟩ := at_T116 HR0.out x9_1 p416 q416
                      cases e416
                      replace hx416_0 := (HB.out.cell (World.block_lt_of_cell? w _ hx416_0)).trans hx416_0
                      replace hx416_1 := (HB.out.cell (World.block_lt_of_cell? w _ hx416_1)).trans hx416_1
                      replace hx416_2 := (HB.out.cell (World.block_lt_of_cell? w _ hx416_2)).trans hx416_2
                      replace p416 := eq_true p416
                      replace q416 := eq_true q416
                      go_wp2_with (first | ((with_reducible refine gate_dst (N := 5) rfl ?_); refine box_event ?hg (N := 5) ?hd (cs := #[.int .i64 0, .int .i64 0, .int .i64 0]) (t := 116) ?hr ?_; (case hd => rfl); (case hg => rfl); (case hr => first | (go_simp; done) | (go_simp; rfl)); intro gb417 hg w26 hbox hb; have n0_ := Aside0.mk (below_step (by repeat (first | (with_reducible first | exact HB.out | apply below_alloc | apply pw_below_drewN | apply below_drew1) | exact HB.out)) hb); have n1_ := Aside0.mk (hbox); have n2_ := Aside0.mk ((by rw [hg]; exact (below_size (by repeat (first | (with_reducible first | exact HB.out | apply below_alloc | apply pw_below_drewN | apply below_drew1) | exact HB.out))) : w.heap.size ≤ gb417)); have n3_ := Aside0.mk ((by rw [hg]; exact (below_size (by repeat (first | (with_reducible first | exact HB.out | apply below_alloc | apply pw_below_drewN | apply below_drew1) | exact HB.out))) : w.heap.size ≤ gb417)); clear HB; have HB := n0_; have BK417 := n1_; have GW417 := n2_; have GE417 := n3_; clear n0_ n1_ n2_ n3_; clear hb hbox hg; have hcz27_0 : w26.cell? ⟨gb417, 0, none⟩ = some (.int .i64 0) := (blk_cell BK417.out 0).trans rfl; have hcz27_1 : w26.cell? ⟨gb417, 1, none⟩ = some (.int .i64 0) := (blk_cell BK417.out 1).trans rfl; have hcz27_2 : w26.cell? ⟨gb417, 2, none⟩ = some (.int .i64 0) := (blk_cell BK417.out 2).trans rfl; have hfz27_0 := blk_frozen BK417.out 0; have hfz27_1 := blk_frozen BK417.out 1; have hfz27_2 := blk_frozen BK417.out 2) | (go_at_call 82; (with_reducible refine (impl_InRange.calls ((rd_T116 l0 x9_1).f1) 1 3000 true _ A6.out).mono ?_); rintro e w' ⟨rfl, ⟨nd, rfl⟩⟩) | (go_at_call 82; (with_reducible refine (impl_InRange.calls ((rd_T116 l0 x9_1).f2) 21 108 true _ A23.out).mono ?_); rintro e w' ⟨rfl, ⟨nd, rfl⟩⟩))
                      go_ret
                      exact ⟨by first | rfl | (simp [errW_none, errW_some] <;> rfl) | (simp [*, errW_none, errW_some] <;> rfl), by repeat (first | (with_reducible first | exact HB.out | apply below_alloc | apply pw_below_drewN | apply below_drew1 | refine below_set ?_ GE417.out) | exact HB.out)⟩
                    · rw [if_neg c25] at H
                      have c25b0 : decide (96 < ((rd_T116 l0 x9_1).f1)) = false := decide_eq_false c25
                      clear c25
                      by_cases c28 : ((rd_T116 l0 x9_1).f2) = 0
                      · exact absurd (beq_iff_eq.mpr c28) (by rw [c8b0]; exact Bool.false_ne_true)
                      · rw [if_neg c28] at H
                        have c28b0 : (((rd_T116 l0 x9_1).f2) == 0) = false := beq_eq_false_iff_ne.mpr c28
                        have c28b1 : (((rd_T116 l0 x9_1).f2) != 0) = true := bne_iff_ne.mpr c28
                        have H' := Aside0.mk H
                        clear H
                        have p416 : 0 ≤ (x9_1 : Int) := of_decide_eq_true (by first | (with_reducible assumption) | assumption)
                        have q416 : x9_1 < (l0.length : Int) := of_decide_eq_true (by first | (with_reducible assumption) | assumption)
                        obtain ⟨ad416, e416, hx416_0, hx416_1, hx416_2⟩ := at_T116 HR0.out x9_1 p416 q416
                        cases e416
                        replace hx416_0 := (HB.out.cell (World.block_lt_of_cell? w _ hx416_0)).trans hx416_0
                        replace hx416_1 := (HB.out.cell (World.block_lt_of_cell? w _ hx416_1)).trans hx416_1
                        replace hx416_2 := (HB.out.cell (World.block_lt_of_cell? w _ hx416_2)).trans hx416_2
                        replace p416 := eq_true p416
                        replace q416 := eq_true q416
                        go_wp2_with (first | ((with_reducible refine gate_dst (N := 5) rfl ?_); refine box_event ?hg (N := 5) ?hd (cs := #[.int .i64 0, .int .i64 0, .int .i64 0]) (t := 116) ?hr ?_; (case hd => rfl); (case hg => rfl); (case hr => first | (go_simp; done) | (go_simp; rfl)); intro gb417 hg w40 hbox hb; have n0_ := Aside0.mk (below_step (by repeat (first | (with_reducible first | exact HB.out | apply below_alloc | apply pw_below_drewN | apply below_drew1) | exact HB.out)) hb); have n1_ := Aside0.mk (hbox); have n2_ := Aside0.mk ((by rw [hg]; exact (below_size (by repeat (first | (with_reducible first | exact HB.out | apply below_alloc | apply pw_below_drewN | apply below_drew1) | exact HB.out))) : w.heap.size ≤ gb417)); have n3_ := Aside0.mk ((by rw [hg]; exact (below_size (by repeat (first | (with_reducible first | exact HB.out | apply below_alloc | apply pw_below_drewN | apply below_drew1) | exact HB.out))) : w.heap.size ≤ gb417)); clear HB; have HB := n0_; have BK417 := n1_; have GW417 := n2_; have GE417 := n3_; clear n0_ n1_ n2_ n3_; clear hb hbox hg; have hcz41_0 : w40.cell? ⟨gb417, 0, none⟩ = some (.int .i64 0) := (blk_cell BK417.out 0).trans rfl; have hcz41_1 : w40.cell? ⟨gb417, 1, none⟩ = some (.int .i64 0) := (blk_cell BK417.out 1).trans rfl; have hcz41_2 : w40.cell? ⟨gb417, 2, none⟩ = some (.int .i64 0) := (blk_cell BK417.out 2).trans rfl; have hfz41_0 := blk_frozen BK417.out 0; have hfz41_1 := blk_frozen BK417.out 1; have hfz41_2 := blk_frozen BK417.out 2) | (go_at_call 82; (with_reducible refine (impl_InRange.calls ((rd_T116 l0 x9_1).f1) 1 3000 true _ A6.out).mono ?_); rintro e w' ⟨rfl, ⟨nd, rfl⟩⟩) | (go_at_call 82; (with_reducible refine (impl_InRange.calls ((rd_T116 l0 x9_1).f2) 21 108 true _ A23.out).mono ?_); rintro e w' ⟨rfl, ⟨nd, rfl⟩⟩))
                        go_roundg k1
                        case measure => have := HK1.out; omega
                        case rel => exact ⟨(wrap64 (x3_1 + ((rd_T116 l0 x9_1).f1))), (wrap64 (x9_1 + 1)), (by first | rfl | (simp; done) | (simp [*]; done)), (by first | rfl | (simp; done) | (simp [*]; done)), H', ⟨by have := HK1.out; omega⟩, ⟨by repeat (first | (with_reducible first | exact HB.out | apply below_alloc | apply pw_below_drewN | apply below_drew1 | refine below_set ?_ GE417.out) | exact HB.out)⟩⟩
                  · replace c24 := Bool.eq_false_iff.mpr c24
                    subst c24
                    have H1 : (some false) = some r := by rw [if_neg (show ¬ (false = true) by decide)] at H; exact H
                    clear H
                    have H := H1
                    clear H1
                    obtain rfl := Option.some.inj H
                    have p416 : 0 ≤ (x9_1 : Int) := of_decide_eq_true (by first | (with_reducible assumption) | assumption)
                    have q416 : x9_1 < (l0.length : Int) := of_decide_eq_true (by first | (with_reducible assumption) | assumption)
                    obtain ⟨ad416, e416, hx416_0, hx416_1, hx416_2⟩ := at_T116 HR0.out x9_1 p416 q416
                    cases e416
                    replace hx416_0 := (HB.out.cell (World.block_lt_of_cell? w _ hx416_0)).trans hx416_0
                    replace hx416_1 := (HB.out.cell (World.block_lt_of_cell? w _ hx416_1)).trans hx416_1
                    replace hx416_2 := (HB.out.cell (World.block_lt_of_cell? w _ hx416_2)).trans hx416_2
                    replace p416 := eq_true p416
                    replace q416 := eq_true q416
                    go_wp2_with (first | ((with_reducible refine gate_dst (N := 5) rfl ?_); refine box_event ?hg (N := 5) ?hd (cs := #[.int .i64 0, .int .i64 0, .int .i64 0]) (t := 116) ?hr ?_; (case hd => rfl); (case hg => rfl); (case hr => first | (go_simp; done) | (go_simp; rfl)); intro gb417 hg w42 hbox hb; have n0_ := Aside0.mk (below_step (by repeat (first | (with_reducible first | exact HB.out | apply below_alloc | apply pw_below_drewN | apply below_drew1) | exact HB.out)) hb); have n1_ := Aside0.mk (hbox); have n2_ := Aside0.mk ((by rw [hg]; exact (below_size (by repeat (first | (with_reducible first | exact HB.out | apply below_alloc | apply pw_below_drewN | apply below_drew1) | exact HB.out))) : w.heap.size ≤ gb417)); have n3_ := Aside0.mk ((by rw [hg]; exact (below_size (by repeat (first | (with_reducible first | exact HB.out | apply below_alloc | apply pw_below_drewN | apply below_drew1) | exact HB.out))) : w.heap.size ≤ gb417)); clear HB; have HB := n0_; have BK417 := n1_; have GW417 := n2_; have GE417 := n3_; clear n0_ n1_ n2_ n3_; clear hb hbox hg; have hcz43_0 : w42.cell? ⟨gb417, 0, none⟩ = some (.int .i64 0) := (blk_cell BK417.out 0).trans rfl; have hcz43_1 : w42.cell? ⟨gb417, 1, none⟩ = some (.int .i64 0) := (blk_cell BK417.out 1).trans rfl; have hcz43_2 : w42.cell? ⟨gb417, 2, none⟩ = some (.int .i64 0) := (blk_cell BK417.out 2).trans rfl; have hfz43_0 := blk_frozen BK417.out 0; have hfz43_1 := blk_frozen BK417.out 1; have hfz43_2 := blk_frozen BK417.out 2) | (go_at_call 82; (with_reducible refine (impl_InRange.calls ((rd_T116 l0 x9_1).f1) 1 3000 true _ A6.out).mono ?_); rintro e w' ⟨rfl, ⟨nd, rfl⟩⟩) | (go_at_call 82; (with_reducible refine (impl_InRange.calls ((rd_T116 l0 x9_1).f2) 21 108 false _ A23.out).mono ?_); rintro e w' ⟨rfl, ⟨nd, rfl⟩⟩))
                    go_ret
                    exact ⟨by first | rfl | (simp [errW_none, errW_some] <;> rfl) | (simp [*, errW_none, errW_some] <;> rfl), by repeat (first | (with_reducible first | exact HB.out | apply below_alloc | apply pw_below_drewN | apply below_drew1 | refine below_set ?_ GE417.out) | exact HB.out)⟩
              · replace c7 := Bool.eq_false_iff.mpr c7
                subst c7
                have H1 : (some false) = some r := by rw [if_neg (show ¬ (false = true) by decide)] at H; exact H
                clear H
                have H := H1
                clear H1
                obtain rfl := Option.some.inj H
                have p416 : 0 ≤ (x9_1 : Int) := of_decide_eq_true (by first | (with_reducible assumption) | assumption)
                have q416 : x9_1 < (l0.length : Int) := of_decide_eq_true (by first | (with_reducible assumption) | assumption)
                obtain ⟨ad416, e416, hx416_0, hx416_1, hx416_2⟩ := at_T116 HR0.out x9_1 p416 q416
                cases e416
                replace hx416_0 := (HB.out.cell (World.block_lt_of_cell? w _ hx416_0)).trans hx416_0
                replace hx416_1 := (HB.out.cell (World.block_lt_of_cell? w _ hx416_1)).trans hx416_1
                replace hx416_2 := (HB.out.cell (World.block_lt_of_cell? w _ hx416_2)).trans hx416_2
                replace p416 := eq_true p416
                replace q416 := eq_true q416
                go_wp2_with (first | ((with_reducible refine gate_dst (N := 5) rfl ?_); refine box_event ?hg (N := 5) ?hd (cs := #[.int .i64 0, .int .i64 0, .int .i64 0]) (t := 116) ?hr ?_; (case hd => rfl); (case hg => rfl); (case hr => first | (go_simp; done) | (go_simp; rfl)); intro gb417 hg w44 hbox hb; have n0_ := Aside0.mk (below_step (by repeat (first | (with_reducible first | exact HB.out | apply below_alloc | apply pw_below_drewN | apply below_drew1) | exact HB.out)) hb); have n1_ := Aside0.mk (hbox); have n2_ := Aside0.mk ((by rw [hg]; exact (below_size (by repeat (first | (with_reducible first | exact HB.out | apply below_alloc | apply pw_below_drewN | apply below_drew1) | exact HB.out))) : w.heap.size ≤ gb417)); have n3_ := Aside0.mk ((by rw [hg]; exact (below_size (by repeat (first | (with_reducible first | exact HB.out | apply below_alloc | apply pw_below_drewN | apply below_drew1) | exact HB.out))) : w.heap.size ≤ gb417)); clear HB; have HB := n0_; have BK417 := n1_; have GW417 := n2_; have GE417 := n3_; clear n0_ n1_ n2_ n3_; clear hb hbox hg; have hcz45_0 : w44.cell? ⟨gb417, 0, none⟩ = some (.int .i64 0) := (blk_cell BK417.out 0).trans rfl; have hcz45_1 : w44.cell? ⟨gb417, 1, none⟩ = some (.int .i64 0) := (blk_cell BK417.out 1).trans rfl; have hcz45_2 : w44.cell? ⟨gb417, 2, none⟩ = some (.int .i64 0) := (blk_cell BK417.out 2).trans rfl; have hfz45_0 := blk_frozen BK417.out 0; have hfz45_1 := blk_frozen BK417.out 1; have hfz45_2 := blk_frozen BK417.out 2) | (go_at_call 82; (with_reducible refine (impl_InRange.calls ((rd_T116 l0 x9_1).f1) 1 3000 false _ A6.out).mono ?_); rintro e w' ⟨rfl, ⟨nd, rfl⟩⟩))
                go_ret
                exact ⟨by first | rfl | (simp [errW_none, errW_some] <;> rfl) | (simp [*, errW_none, errW_some] <;> rfl), by repeat (first | (with_reducible first | exact HB.out | apply below_alloc | apply pw_below_drewN | apply below_drew1 | refine below_set ?_ GE417.out) | exact HB.out)⟩
            · rw [if_neg c5] at H
              have c5b0 : (((rd_T116 l0 x9_1).f0) == x3_1) = false := beq_eq_false_iff_ne.mpr c5
              have c5b1 : (((rd_T116 l0 x9_1).f0) != x3_1) = true := bne_iff_ne.mpr c5
              obtain rfl := Option.some.inj H
              have p416 : 0 ≤ (x9_1 : Int) := of_decide_eq_true (by first | (with_reducible assumption) | assumption)
              have q416 : x9_1 < (l0.length : Int) := of_decide_eq_true (by first | (with_reducible assumption) | assumption)
              obtain ⟨ad416, e416, hx416_0, hx416_1, hx416_2⟩ := at_T116 HR0.out x9_1 p416 q416
              cases e416
              replace hx416_0 := (HB.out.cell (World.block_lt_of_cell? w _ hx416_0)).trans hx416_0
              replace hx416_1 := (HB.out.cell (World.block_lt_of_cell? w _ hx416_1)).trans hx416_1
              replace hx416_2 := (HB.out.cell (World.block_lt_of_cell? w _ hx416_2)).trans hx416_2
              replace p416 := eq_true p416
              replace q416 := eq_true q416
              go_wp2_with (first | ((with_reducible refine gate_dst (N := 5) rfl ?_); refine box_event ?hg (N := 5) ?hd (cs := #[.int .i64 0, .int .i64 0, .int .i64 0]) (t := 116) ?hr ?_; (case hd => rfl); (case hg => rfl); (case hr => first | (go_simp; done) | (go_simp; rfl)); intro gb417 hg w46 hbox hb; have n0_ := Aside0.mk (below_step (by repeat (first | (with_reducible first | exact HB.out | apply below_alloc | apply pw_below_drewN | apply below_drew1) | exact HB.out)) hb); have n1_ := Aside0.mk (hbox); have n2_ := Aside0.mk ((by rw [hg]; exact (below_size (by repeat (first | (with_reducible first | exact HB.out | apply below_alloc | apply pw_below_drewN | apply below_drew1) | exact HB.out))) : w.heap.size ≤ gb417)); have n3_ := Aside0.mk ((by rw [hg]; exact (below_size (by repeat (first | (with_reducible first | exact HB.out | apply below_alloc | apply pw_below_drewN | apply below_drew1) | exact HB.out))) : w.heap.size ≤ gb417)); clear HB; have HB := n0_; have BK417 := n1_; have GW417 := n2_; have GE417 := n3_; clear n0_ n1_ n2_ n3_; clear hb hbox hg; have hcz47_0 : w46.cell? ⟨gb417, 0, none⟩ = some (.int .i64 0) := (blk_cell BK417.out 0).trans rfl; have hcz47_1 : w46.cell? ⟨gb417, 1, none⟩ = some (.int .i64 0) := (blk_cell BK417.out 1).trans rfl; have hcz47_2 : w46.cell? ⟨gb417, 2, none⟩ = some (.int .i64 0) := (blk_cell BK417.out 2).trans rfl; have hfz47_0 := blk_frozen BK417.out 0; have hfz47_1 := blk_frozen BK417.out 1; have hfz47_2 := blk_frozen BK417.out 2))
              go_ret
              exact ⟨by first | rfl | (simp [errW_none, errW_some] <;> rfl) | (simp [*, errW_none, errW_some] <;> rfl), by repeat (first | (with_reducible first | exact HB.out | apply below_alloc | apply pw_below_drewN | apply below_drew1 | refine below_set ?_ GE417.out) | exact HB.out)⟩
          · rw [if_neg c4] at H
            exact absurd H (by simp)
        · rw [if_neg c3] at H
          exact absurd H (by simp)
      · rw [if_neg c2] at H
        have c2b0 : decide (x9_1 < (l0.length : Int)) = false := decide_eq_false c2
        clear c2
        obtain rfl := Option.some.inj H
        go_wp2
        go_ret
        exact ⟨by first | rfl | (simp [errW_none, errW_some] <;> rfl) | (simp [*, errW_none, errW_some] <;> rfl), by repeat (first | (with_reducible first | exact HB.out | apply below_alloc | apply pw_below_drewN | apply below_drew1) | exact HB.out)⟩

end Go.Proofs.Ytiophiipmgpaeaa.F
