-- Written for this claim by the kit's print.py out of the translation, called by wip/tools/fprint.py. Lean checks it.
import Derived.Test.YtinbdgngpkbgcaaF0
import Derived.Test.YtinbdgngpkbgcaaF2
namespace Go.Proofs.Ytinbdgngpkbgcaa.F
open Go.RowKit Go.Proofs.YtinbdgngpkbgcaaW.PrintWords Go.Proofs.YtinbdgngpkbgcaaW.PrintLast Go.Proofs.YtinbdgngpkbgcaaW.PrintMore
attribute [local go_sem] max2_int min2_int max_two min_two max_three min_three max_four min_four   -- for this text's walks alone
set_option linter.unusedVariables false
set_option linter.unusedSimpArgs false

/-! ### spec_JoinPieces: function 57 -/
def spec_JoinPieces.l0 : Nat → List (S97) → Int → Int → Option (Int × Int × Bool)
  | 0, _, _, _ => none
  | k + 1, x0, x5, x6 => if x6 < (x0.length : Int) then (if 0 ≤ x6 then ((spec_l1In.f ((rd_T97 x0 x6).f1) 1 96).bind fun t739 => (if t739 = true then ((spec_l1In.f ((rd_T97 x0 x6).f0) 0 3000).bind fun t741 => (if t741 = true then (if x6 > 0 then (if 0 ≤ (wrap64 (x6 - 1)) then (if (wrap64 (x6 - 1)) < (x0.length : Int) then (if ((rd_T97 x0 x6).f0) = (wrap64 (((rd_T97 x0 (wrap64 (x6 - 1))).f0) + ((rd_T97 x0 (wrap64 (x6 - 1))).f1))) then (if (((rd_T97 x0 x6).f2) != (decide ((wrap64 (x6 + 1)) < (x0.length : Int)))) = true then (some (0, 0, false)) else (spec_JoinPieces.l0 k x0 (wrap64 (x5 + ((rd_T97 x0 x6).f1))) (wrap64 (x6 + 1)))) else (some (0, 0, false))) else (none)) else (none)) else (if (((rd_T97 x0 x6).f2) != (decide ((wrap64 (x6 + 1)) < (x0.length : Int)))) = true then (some (0, 0, false)) else (spec_JoinPieces.l0 k x0 (wrap64 (x5 + ((rd_T97 x0 x6).f1))) (wrap64 (x6 + 1))))) else (some (0, 0, false)))) else (some (0, 0, false)))) else (none)) else (if 0 < (x0.length : Int) then (some ((rd_T97 x0 0).f0, x5, true)) else (none))
def spec_JoinPieces.f (k : Nat) (l0 : List (S97)) : Option (Int × Int × Bool) := (spec_l1In.f (l0.length : Int) 1 200).bind fun t736 => (if t736 = true then (spec_JoinPieces.l0 k l0 0 0) else (some (0, 0, false)))
theorem spec_JoinPieces.mono_l : ∀ k, (∀ y0 y1 y2, LeO (spec_JoinPieces.l0 k y0 y1 y2) (spec_JoinPieces.l0 (k + 1) y0 y1 y2))
  | 0 => fun _ _ _ r h => by simp [spec_JoinPieces.l0] at h
  | k + 1 => by
    have ih0 := spec_JoinPieces.mono_l k
    · intro y0 y1 y2
      unfold spec_JoinPieces.l0
      repeat' first
      | (with_reducible exact ih0 _ _ _)
      | (with_reducible exact LeO.refl _)
      | (with_reducible exact LeO.none _)
      | (with_reducible refine LeO.ite ?_ ?_)
      | (with_reducible refine LeO.bind ?_ (fun _ => ?_))
      | exact ih0 _ _ _
      | exact LeO.none _
      | refine LeO.ite ?_ ?_
      | refine LeO.bind ?_ (fun _ => ?_)
theorem spec_JoinPieces.mono : ∀ a0 k, LeO (spec_JoinPieces.f k a0) (spec_JoinPieces.f (k + 1) a0) := by
  intro a0 k
  have ih0 := spec_JoinPieces.mono_l k
  unfold spec_JoinPieces.f
  repeat' first
      | (with_reducible exact ih0 _ _ _)
      | (with_reducible exact LeO.refl _)
      | (with_reducible exact LeO.none _)
      | (with_reducible refine LeO.ite ?_ ?_)
      | (with_reducible refine LeO.bind ?_ (fun _ => ?_))
      | exact ih0 _ _ _
      | exact LeO.none _
      | refine LeO.ite ?_ ?_
      | refine LeO.bind ?_ (fun _ => ?_)
def spec_JoinPieces.T7 : Bool × List (List Nat × List Nat) := (true, [([], []), ([], []), ([0, 1], [0, 1]), ([2], [2]), ([3], [3]), ([4], [4]), ([5], [5]), ([6, 5], [6]), ([7], [7]), ([7], [7]), ([8, 9, 7], [7, 8, 9]), ([10, 7], [7, 10]), ([11, 7], [7, 11]), ([12, 7, 7], [7, 12]), ([13, 7], [7, 13]), ([7, 14], [7, 14]), ([15, 13], [15]), ([16], [16]), ([17, 16], [16, 17]), ([18, 16, 16], [16, 18]), ([19], [19]), ([19], [19]), ([20, 21, 19], [19, 20, 21]), ([22, 19], [19, 22]), ([23, 19], [19, 23]), ([19], [19]), ([19], [19]), ([26, 19], [19, 26]), ([25, 27, 19], [19, 25, 27]), ([28, 19], [19, 28]), ([29, 19], [19, 29]), ([19], [19]), ([19], [19]), ([32, 19], [19, 32]), ([31, 33, 19], [19, 31, 33]), ([34, 19], [19, 34]), ([35, 19], [19, 35]), ([30, 36, 19], [19, 30, 36]), ([24, 37, 19], [19, 24, 37]), ([19, 38, 16], [16, 19, 38]), ([16, 39], [16, 39]), ([40, 19], [40]), ([41], [41]), ([41], [41]), ([42, 43, 41], [41, 42, 43]), ([44, 41], [41, 44]), ([45, 41], [41, 45]), ([41], [41]), ([47, 41], [41, 47]), ([41], [41]), ([49, 41], [41, 49]), ([48, 50, 41], [41, 48, 50]), ([46, 51, 41], [41, 46, 51]), ([41, 52], [41, 52])])
def spec_JoinPieces.B7 : List Nat := [0, 0, 3, 7, 15, 31, 63, 127, 255, 255, 1023, 2047, 4095, 8191, 16383, 32767, 65535, 131071, 262143, 524287, 1048575, 1048575, 4194303, 8388607, 16777215, 1048575, 1048575, 68157439, 235929599, 504365055, 1041235967, 1048575, 1048575, 4296015871, 15033434111, 32213303295, 66573041663, 137406447615, 274877906943, 549755813887, 1099511627775, 2199023255551, 4398046511103, 4398046511103, 17592186044415, 35184372088831, 70368744177663, 4398046511103, 145135534866431, 4398046511103, 567347999932415, 2115460371841023, 4503599627370495, 9007199254740991]
theorem spec_JoinPieces.tab7 : rtab .any (opsOf Try.f57 7) = spec_JoinPieces.T7 := by kernel_rfl
theorem spec_JoinPieces.bits7 : waitsOk spec_JoinPieces.T7.2 spec_JoinPieces.B7 = true := by kernel_rfl
set_option maxHeartbeats 8000000 in
set_option maxRecDepth 100000 in
theorem spec_JoinPieces.calls (k : Nat) (A0 : Option Addr) (c0 : Nat) (l0 : List (S97)) (r1 : Int) (r2 : Int) (r3 : Bool) (w : World) (hr0 : Kd.C k97 w A0 l0.length l0) (hc0 : l0.length ≤ c0) (h : spec_JoinPieces.f k l0 = some (r1, r2, r3)) :
    Calls Try.prog 57 #[.slice A0 l0.length c0] w fun e w' => e = .returned (.tuple #[.int .i64 r1, .int .i64 r2, .bool r3]) ∧ Below w.heap.size w w' := by
  have HR0 := Aside0.mk hr0
  have HC0 := Aside0.mk hc0
  clear hr0 hc0
  have HB := Aside0.mk (Below.refl w.heap.size w)
  have H : ((spec_l1In.f (l0.length : Int) 1 200).bind fun t736 => (if t736 = true then (spec_JoinPieces.l0 k l0 0 0) else (some (0, 0, false)))) = some (r1, r2, r3) := h
  clear h
  replace H := Option.bind_eq_some_iff.mp H
  obtain ⟨t736, A20, H⟩ := H
  replace H : (if t736 = true then (spec_JoinPieces.l0 k l0 0 0) else (some (0, 0, false))) = some (r1, r2, r3) := H
  have A2 := Aside0.mk A20
  clear A20
  by_cases c3 : t736 = true
  · subst c3
    have H1 : (spec_JoinPieces.l0 k l0 0 0) = some (r1, r2, r3) := by rw [if_pos rfl] at H; exact H
    clear H
    have H := H1
    clear H1
    have H' := Aside0.mk H
    clear H
    go_enter Try.func57, Try.ntmps57
    go_wp2_with (first | ((with_reducible refine gate_callee (f := 64) rfl ?_); refine goesL_ (some 9) rfl rfl Try.func64 (by kernel_rfl) rfl #[.int .i64 (l0.length : Int), .int .i64 1, .int .i64 200] rfl (by (try simp only [List.map_toArray, List.map_cons, List.map_nil]); first | done | rfl | (simp only [List.length_drop, List.length_take]; rfl)) ?_; (with_reducible refine (spec_l1In.calls (l0.length : Int) 1 200 true _ A2.out).mono ?_); rintro e w' ⟨rfl, ⟨nd, rfl⟩⟩; refine ⟨_, rfl, ?_⟩))
    go_loopg [5, 6] k (fun kq v5 v6 w' => ∃ (x5_1 : Int) (x6_1 : Int), v5 = .int .i64 x5_1 ∧ v6 = .int .i64 x6_1 ∧ Aside0 (spec_JoinPieces.l0 kq l0 x5_1 x6_1 = some (r1, r2, r3)) ∧ Aside0 (kq ≤ k) ∧ Aside0 (Below w.heap.size w w'))
    case atStart => exact ⟨(0), (0), (by first | rfl | (simp; done) | (simp [*]; done)), (by first | rfl | (simp; done) | (simp [*]; done)), H', ⟨Nat.le_refl _⟩, ⟨by repeat (first | (with_reducible first | exact HB.out | apply below_alloc | apply pw_below_drewN | apply below_drew1) | exact HB.out)⟩⟩
    case round =>
      clear H'
      try clear p2
      try clear c3
      obtain ⟨x5_1, x6_1, rfl, rfl, HA, HK1, HB⟩ := hrel
      cases gk with
      | zero => exact absurd HA.out (by simp [spec_JoinPieces.l0])
      | succ k1 =>
        have H := HA.out
        clear HA
        simp only [spec_JoinPieces.l0] at H
        by_cases c4 : x6_1 < (l0.length : Int)
        · rw [if_pos c4] at H
          have c4b0 : decide (x6_1 < (l0.length : Int)) = true := decide_eq_true c4
          clear c4
          by_cases c5 : 0 ≤ x6_1
          · rw [if_pos c5] at H
            have c5b0 : decide (0 ≤ x6_1) = true := decide_eq_true c5
            clear c5
            replace H := Option.bind_eq_some_iff.mp H
            obtain ⟨t739, A60, H⟩ := H
            replace H : (if t739 = true then ((spec_l1In.f ((rd_T97 l0 x6_1).f0) 0 3000).bind fun t741 => (if t741 = true then (if x6_1 > 0 then (if 0 ≤ (wrap64 (x6_1 - 1)) then (if (wrap64 (x6_1 - 1)) < (l0.length : Int) then (if ((rd_T97 l0 x6_1).f0) = (wrap64 (((rd_T97 l0 (wrap64 (x6_1 - 1))).f0) + ((rd_T97 l0 (wrap64 (x6_1 - 1))).f1))) then (if (((rd_T97 l0 x6_1).f2) != (decide ((wrap64 (x6_1 + 1)) < (l0.length : Int)))) = true then (some (0, 0, false)) else (spec_JoinPieces.l0 k1 l0 (wrap64 (x5_1 + ((rd_T97 l0 x6_1).f1))) (wrap64 (x6_1 + 1)))) else (some (0, 0, false))) else (none)) else (none)) else (if (((rd_T97 l0 x6_1).f2) != (decide ((wrap64 (x6_1 + 1)) < (l0.length : Int)))) = true then (some (0, 0, false)) else (spec_JoinPieces.l0 k1 l0 (wrap64 (x5_1 + ((rd_T97 l0 x6_1).f1))) (wrap64 (x6_1 + 1))))) else (some (0, 0, false)))) else (some (0, 0, false))) = some (r1, r2, r3) := H
            have A6 := Aside0.mk A60
            clear A60
            by_cases c7 : t739 = true
            · subst c7
              have H1 : ((spec_l1In.f ((rd_T97 l0 x6_1).f0) 0 3000).bind fun t741 => (if t741 = true then (if x6_1 > 0 then (if 0 ≤ (wrap64 (x6_1 - 1)) then (if (wrap64 (x6_1 - 1)) < (l0.length : Int) then (if ((rd_T97 l0 x6_1).f0) = (wrap64 (((rd_T97 l0 (wrap64 (x6_1 - 1))).f0) + ((rd_T97 l0 (wrap64 (x6_1 - 1))).f1))) then (if (((rd_T97 l0 x6_1).f2) != (decide ((wrap64 (x6_1 + 1)) < (l0.length : Int)))) = true then (some (0, 0, false)) else (spec_JoinPieces.l0 k1 l0 (wrap64 (x5_1 + ((rd_T97 l0 x6_1).f1))) (wrap64 (x6_1 + 1)))) else (some (0, 0, false))) else (none)) else (none)) else (if (((rd_T97 l0 x6_1).f2) != (decide ((wrap64 (x6_1 + 1)) < (l0.length : Int)))) = true then (some (0, 0, false)) else (spec_JoinPieces.l0 k1 l0 (wrap64 (x5_1 + ((rd_T97 l0 x6_1).f1))) (wrap64 (x6_1 + 1))))) else (some (0, 0, false)))) = some (r1, r2, r3) := by rw [if_pos rfl] at H; exact H
              clear H
              have H := H1
              clear H1
              replace H := Option.bind_eq_some_iff.mp H
              obtain ⟨t741, A80, H⟩ := H
              replace H : (if t741 = true then (if x6_1 > 0 then (if 0 ≤ (wrap64 (x6_1 - 1)) then (if (wrap64 (x6_1 - 1)) < (l0.length : Int) then (if ((rd_T97 l0 x6_1).f0) = (wrap64 (((rd_T97 l0 (wrap64 (x6_1 - 1))).f0) + ((rd_T97 l0 (wrap64 (x6_1 - 1))).f1))) then (if (((rd_T97 l0 x6_1).f2) != (decide ((wrap64 (x6_1 + 1)) < (l0.length : Int)))) = true then (some (0, 0, false)) else (spec_JoinPieces.l0 k1 l0 (wrap64 (x5_1 + ((rd_T97 l0 x6_1).f1))) (wrap64 (x6_1 + 1)))) else (some (0, 0, false))) else (none)) else (none)) else (if (((rd_T97 l0 x6_1).f2) != (decide ((wrap64 (x6_1 + 1)) < (l0.length : Int)))) = true then (some (0, 0, false)) else (spec_JoinPieces.l0 k1 l0 (wrap64 (x5_1 + ((rd_T97 l0 x6_1).f1))) (wrap64 (x6_1 + 1))))) else (some (0, 0, false))) = some (r1, r2, r3) := H
              have A8 := Aside0.mk A80
              clear A80
              by_cases c9 : t741 = true
              · subst c9
                have H1 : (if x6_1 > 0 then (if 0 ≤ (wrap64 (x6_1 - 1)) then (if (wrap64 (x6_1 - 1)) < (l0.length : Int) then (if ((rd_T97 l0 x6_1).f0) = (wrap64 (((rd_T97 l0 (wrap64 (x6_1 - 1))).f0) + ((rd_T97 l0 (wrap64 (x6_1 - 1))).f1))) then (if (((rd_T97 l0 x6_1).f2) != (decide ((wrap64 (x6_1 + 1)) < (l0.length : Int)))) = true then (some (0, 0, false)) else (spec_JoinPieces.l0 k1 l0 (wrap64 (x5_1 + ((rd_T97 l0 x6_1).f1))) (wrap64 (x6_1 + 1)))) else (some (0, 0, false))) else (none)) else (none)) else (if (((rd_T97 l0 x6_1).f2) != (decide ((wrap64 (x6_1 + 1)) < (l0.length : Int)))) = true then (some (0, 0, false)) else (spec_JoinPieces.l0 k1 l0 (wrap64 (x5_1 + ((rd_T97 l0 x6_1).f1))) (wrap64 (x6_1 + 1))))) = some (r1, r2, r3) := by rw [if_pos rfl] at H; exact H
                clear H
                have H := H1
                clear H1
                by_cases c10 : x6_1 > 0
                · rw [if_pos c10] at H
                  have c10b0 : decide (0 < x6_1) = true := decide_eq_true c10
                  clear c10
                  obtain ⟨ji11, hji11⟩ : ∃ j_ : Int, (wrap64 (x6_1 - 1)) = j_ := ⟨_, rfl⟩
                  replace H : (if 0 ≤ (ji11) then (if (ji11) < (l0.length : Int) then (if ((rd_T97 l0 x6_1).f0) = (wrap64 (((rd_T97 l0 (ji11)).f0) + ((rd_T97 l0 (ji11)).f1))) then (if (((rd_T97 l0 x6_1).f2) != (decide ((wrap64 (x6_1 + 1)) < (l0.length : Int)))) = true then (some (0, 0, false)) else (spec_JoinPieces.l0 k1 l0 (wrap64 (x5_1 + ((rd_T97 l0 x6_1).f1))) (wrap64 (x6_1 + 1)))) else (some (0, 0, false))) else (none)) else (none)) = some (r1, r2, r3) := by first | (rw [hji11] at H; exact H) | (simp only [hji11] at H ⊢; exact H)
                  (try rw [hji11] at A6)
                  (try rw [hji11] at A8)
                  have hji11w : (IntKind.i64.wrap (x6_1 - 1)) = ji11 := (i64_w _).trans hji11
                  by_cases c12 : 0 ≤ (ji11)
                  · rw [if_pos c12] at H
                    have c12b0 : decide (0 ≤ (ji11)) = true := decide_eq_true c12
                    clear c12
                    by_cases c13 : (ji11) < (l0.length : Int)
                    · rw [if_pos c13] at H
                      have c13b0 : decide ((ji11) < (l0.length : Int)) = true := decide_eq_true c13
                      clear c13
                      by_cases c14 : ((rd_T97 l0 x6_1).f0) = (wrap64 (((rd_T97 l0 (ji11)).f0) + ((rd_T97 l0 (ji11)).f1)))
                      · rw [if_pos c14] at H
                        have c14b0 : (((rd_T97 l0 x6_1).f0) == (wrap64 (((rd_T97 l0 (ji11)).f0) + ((rd_T97 l0 (ji11)).f1)))) = true := beq_iff_eq.mpr c14
                        have c14b1 : (((rd_T97 l0 x6_1).f0) != (wrap64 (((rd_T97 l0 (ji11)).f0) + ((rd_T97 l0 (ji11)).f1)))) = false := bne_eq_false_iff_eq.mpr c14
                        clear c14
                        by_cases c15 : (((rd_T97 l0 x6_1).f2) != (decide ((wrap64 (x6_1 + 1)) < (l0.length : Int)))) = true
                        · rw [if_pos c15] at H
                          have c15b0 : (((rd_T97 l0 x6_1).f2) != (decide ((wrap64 (x6_1 + 1)) < (l0.length : Int)))) = true := c15
                          (try (have c15b1 : decide (((rd_T97 l0 x6_1).f2) = (decide ((wrap64 (x6_1 + 1)) < (l0.length : Int)))) = false := by simpa using c15))
                          (try (have c15b2 : (((rd_T97 l0 x6_1).f2) == (decide ((wrap64 (x6_1 + 1)) < (l0.length : Int)))) = false := by simpa using c15))
                          (try (have c15b3 : ¬ (((rd_T97 l0 x6_1).f2) = (decide ((wrap64 (x6_1 + 1)) < (l0.length : Int)))) := by simpa using c15))
                          clear c15
                          simp only [Option.some.injEq, Prod.mk.injEq] at H
                          obtain ⟨rfl, rfl, rfl⟩ := H
                          try go_wp2
                          have n0_ := Aside0.mk (below_drew1 HB.out)
                          clear HB
                          have HB := n0_
                          clear n0_
                          have p738 : 0 ≤ (x6_1 : Int) := of_decide_eq_true (by first | (with_reducible assumption) | assumption)
                          have q738 : x6_1 < (l0.length : Int) := of_decide_eq_true (by first | (with_reducible assumption) | assumption)
                          obtain ⟨ad738, e738, hx738_0, hx738_1, hx738_2⟩ := at_T97 HR0.out x6_1 p738 q738
                          have hw738_2 := hx738_2
                          have hw738_1 := hx738_1
                          have hw738_0 := hx738_0
                          cases e738
                          replace hx738_0 := (HB.out.cell (World.block_lt_of_cell? w _ hx738_0)).trans hx738_0
                          replace hx738_1 := (HB.out.cell (World.block_lt_of_cell? w _ hx738_1)).trans hx738_1
                          replace hx738_2 := (HB.out.cell (World.block_lt_of_cell? w _ hx738_2)).trans hx738_2
                          replace p738 := eq_true p738
                          replace q738 := eq_true q738
                          have p740 : 0 ≤ (x6_1 : Int) := of_decide_eq_true (by first | (with_reducible assumption) | assumption)
                          have q740 : x6_1 < (l0.length : Int) := of_decide_eq_true (by first | (with_reducible assumption) | assumption)
                          obtain ⟨ad740, e740, hx740_0, hx740_1, hx740_2⟩ := at_T97 HR0.out x6_1 p740 q740
                          have hw740_2 := hx740_2
                          have hw740_1 := hx740_1
                          have hw740_0 := hx740_0
                          obtain rfl : ad738 = ad740 := (by injection e740)
                          replace hx740_0 := (HB.out.cell (World.block_lt_of_cell? w _ hx740_0)).trans hx740_0
                          replace hx740_1 := (HB.out.cell (World.block_lt_of_cell? w _ hx740_1)).trans hx740_1
                          replace hx740_2 := (HB.out.cell (World.block_lt_of_cell? w _ hx740_2)).trans hx740_2
                          replace p740 := eq_true p740
                          replace q740 := eq_true q740
                          have p742 : 0 ≤ (x6_1 : Int) := of_decide_eq_true (by first | (with_reducible assumption) | assumption)
                          have q742 : x6_1 < (l0.length : Int) := of_decide_eq_true (by first | (with_reducible assumption) | assumption)
                          obtain ⟨ad742, e742, hx742_0, hx742_1, hx742_2⟩ := at_T97 HR0.out x6_1 p742 q742
                          have hw742_2 := hx742_2
                          have hw742_1 := hx742_1
                          have hw742_0 := hx742_0
                          obtain rfl : ad738 = ad742 := (by injection e742)
                          replace hx742_0 := (HB.out.cell (World.block_lt_of_cell? w _ hx742_0)).trans hx742_0
                          replace hx742_1 := (HB.out.cell (World.block_lt_of_cell? w _ hx742_1)).trans hx742_1
                          replace hx742_2 := (HB.out.cell (World.block_lt_of_cell? w _ hx742_2)).trans hx742_2
                          replace p742 := eq_true p742
                          replace q742 := eq_true q742
                          have p743 : 0 ≤ ((ji11) : Int) := of_decide_eq_true (by first | (with_reducible assumption) | assumption)
                          have q743 : (ji11) < (l0.length : Int) := of_decide_eq_true (by first | (with_reducible assumption) | assumption)
                          obtain ⟨ad743, e743, hx743_0, hx743_1, hx743_2⟩ := at_T97 HR0.out (ji11) p743 q743
                          have hw743_2 := hx743_2
                          have hw743_1 := hx743_1
                          have hw743_0 := hx743_0
                          obtain rfl : ad738 = ad743 := (by injection e743)
                          replace hx743_0 := (HB.out.cell (World.block_lt_of_cell? w _ hx743_0)).trans hx743_0
                          replace hx743_1 := (HB.out.cell (World.block_lt_of_cell? w _ hx743_1)).trans hx743_1
                          replace hx743_2 := (HB.out.cell (World.block_lt_of_cell? w _ hx743_2)).trans hx743_2
                          replace p743 := eq_true p743
                          replace q743 := eq_true q743
                          have p744 : 0 ≤ ((ji11) : Int) := of_decide_eq_true (by first | (with_reducible assumption) | assumption)
                          have q744 : (ji11) < (l0.length : Int) := of_decide_eq_true (by first | (with_reducible assumption) | assumption)
                          obtain ⟨ad744, e744, hx744_0, hx744_1, hx744_2⟩ := at_T97 HR0.out (ji11) p744 q744
                          have hw744_2 := hx744_2
                          have hw744_1 := hx744_1
                          have hw744_0 := hx744_0
                          obtain rfl : ad738 = ad744 := (by injection e744)
                          replace hx744_0 := (HB.out.cell (World.block_lt_of_cell? w _ hx744_0)).trans hx744_0
                          replace hx744_1 := (HB.out.cell (World.block_lt_of_cell? w _ hx744_1)).trans hx744_1
                          replace hx744_2 := (HB.out.cell (World.block_lt_of_cell? w _ hx744_2)).trans hx744_2
                          replace p744 := eq_true p744
                          replace q744 := eq_true q744
                          have p745 : 0 ≤ (x6_1 : Int) := of_decide_eq_true (by first | (with_reducible assumption) | assumption)
                          have q745 : x6_1 < (l0.length : Int) := of_decide_eq_true (by first | (with_reducible assumption) | assumption)
                          obtain ⟨ad745, e745, hx745_0, hx745_1, hx745_2⟩ := at_T97 HR0.out x6_1 p745 q745
                          have hw745_2 := hx745_2
                          have hw745_1 := hx745_1
                          have hw745_0 := hx745_0
                          obtain rfl : ad738 = ad745 := (by injection e745)
                          replace hx745_0 := (HB.out.cell (World.block_lt_of_cell? w _ hx745_0)).trans hx745_0
                          replace hx745_1 := (HB.out.cell (World.block_lt_of_cell? w _ hx745_1)).trans hx745_1
                          replace hx745_2 := (HB.out.cell (World.block_lt_of_cell? w _ hx745_2)).trans hx745_2
                          replace p745 := eq_true p745
                          replace q745 := eq_true q745
                          have hq0_ : wr.cell? (ad738.add ((x6_1).toNat * 3)) = some (.int .i64 ((rd_T97 l0 x6_1).f0)) := ((HB.out.cell (World.block_lt_of_cell? w _ hw738_0)).trans hw738_0)
                          have hq1_ : wr.cell? ⟨(ad738.add ((x6_1).toNat * 3)).block, (ad738.add ((x6_1).toNat * 3)).off + 1, none⟩ = some (.int .i64 ((rd_T97 l0 x6_1).f1)) := ((HB.out.cell (World.block_lt_of_cell? w _ hw738_1)).trans hw738_1)
                          have hq2_ : wr.cell? ⟨(ad738.add ((x6_1).toNat * 3)).block, (ad738.add ((x6_1).toNat * 3)).off + 2, none⟩ = some (.bool ((rd_T97 l0 x6_1).f2)) := ((HB.out.cell (World.block_lt_of_cell? w _ hw738_2)).trans hw738_2)
                          have hq3_ : wr.cell? (ad738.add ((x6_1).toNat * 3)) = some (.int .i64 ((rd_T97 l0 x6_1).f0)) := ((HB.out.cell (World.block_lt_of_cell? w _ hw740_0)).trans hw740_0)
                          have hq4_ : wr.cell? ⟨(ad738.add ((x6_1).toNat * 3)).block, (ad738.add ((x6_1).toNat * 3)).off + 1, none⟩ = some (.int .i64 ((rd_T97 l0 x6_1).f1)) := ((HB.out.cell (World.block_lt_of_cell? w _ hw740_1)).trans hw740_1)
                          have hq5_ : wr.cell? ⟨(ad738.add ((x6_1).toNat * 3)).block, (ad738.add ((x6_1).toNat * 3)).off + 2, none⟩ = some (.bool ((rd_T97 l0 x6_1).f2)) := ((HB.out.cell (World.block_lt_of_cell? w _ hw740_2)).trans hw740_2)
                          have hq6_ : wr.cell? (ad738.add ((x6_1).toNat * 3)) = some (.int .i64 ((rd_T97 l0 x6_1).f0)) := ((HB.out.cell (World.block_lt_of_cell? w _ hw742_0)).trans hw742_0)
                          have hq7_ : wr.cell? ⟨(ad738.add ((x6_1).toNat * 3)).block, (ad738.add ((x6_1).toNat * 3)).off + 1, none⟩ = some (.int .i64 ((rd_T97 l0 x6_1).f1)) := ((HB.out.cell (World.block_lt_of_cell? w _ hw742_1)).trans hw742_1)
                          have hq8_ : wr.cell? ⟨(ad738.add ((x6_1).toNat * 3)).block, (ad738.add ((x6_1).toNat * 3)).off + 2, none⟩ = some (.bool ((rd_T97 l0 x6_1).f2)) := ((HB.out.cell (World.block_lt_of_cell? w _ hw742_2)).trans hw742_2)
                          have hq9_ : wr.cell? (ad738.add (((ji11)).toNat * 3)) = some (.int .i64 ((rd_T97 l0 (ji11)).f0)) := ((HB.out.cell (World.block_lt_of_cell? w _ hw743_0)).trans hw743_0)
                          have hq10_ : wr.cell? ⟨(ad738.add (((ji11)).toNat * 3)).block, (ad738.add (((ji11)).toNat * 3)).off + 1, none⟩ = some (.int .i64 ((rd_T97 l0 (ji11)).f1)) := ((HB.out.cell (World.block_lt_of_cell? w _ hw743_1)).trans hw743_1)
                          have hq11_ : wr.cell? ⟨(ad738.add (((ji11)).toNat * 3)).block, (ad738.add (((ji11)).toNat * 3)).off + 2, none⟩ = some (.bool ((rd_T97 l0 (ji11)).f2)) := ((HB.out.cell (World.block_lt_of_cell? w _ hw743_2)).trans hw743_2)
                          have hq12_ : wr.cell? (ad738.add (((ji11)).toNat * 3)) = some (.int .i64 ((rd_T97 l0 (ji11)).f0)) := ((HB.out.cell (World.block_lt_of_cell? w _ hw744_0)).trans hw744_0)
                          have hq13_ : wr.cell? ⟨(ad738.add (((ji11)).toNat * 3)).block, (ad738.add (((ji11)).toNat * 3)).off + 1, none⟩ = some (.int .i64 ((rd_T97 l0 (ji11)).f1)) := ((HB.out.cell (World.block_lt_of_cell? w _ hw744_1)).trans hw744_1)
                          have hq14_ : wr.cell? ⟨(ad738.add (((ji11)).toNat * 3)).block, (ad738.add (((ji11)).toNat * 3)).off + 2, none⟩ = some (.bool ((rd_T97 l0 (ji11)).f2)) := ((HB.out.cell (World.block_lt_of_cell? w _ hw744_2)).trans hw744_2)
                          have hq15_ : wr.cell? (ad738.add ((x6_1).toNat * 3)) = some (.int .i64 ((rd_T97 l0 x6_1).f0)) := ((HB.out.cell (World.block_lt_of_cell? w _ hw745_0)).trans hw745_0)
                          have hq16_ : wr.cell? ⟨(ad738.add ((x6_1).toNat * 3)).block, (ad738.add ((x6_1).toNat * 3)).off + 1, none⟩ = some (.int .i64 ((rd_T97 l0 x6_1).f1)) := ((HB.out.cell (World.block_lt_of_cell? w _ hw745_1)).trans hw745_1)
                          have hq17_ : wr.cell? ⟨(ad738.add ((x6_1).toNat * 3)).block, (ad738.add ((x6_1).toNat * 3)).off + 2, none⟩ = some (.bool ((rd_T97 l0 x6_1).f2)) := ((HB.out.cell (World.block_lt_of_cell? w _ hw745_2)).trans hw745_2)
                          go_quiet ((first | (go_at_call 64; apply Calls.quiet_of; ((with_reducible refine (spec_l1In.calls ((rd_T97 l0 x6_1).f1) 1 96 true _ A6.out).mono ?_); exact fun _ _ h_ => ⟨h_.1, h_.2.out⟩)) | (go_at_call 64; apply Calls.quiet_of; ((with_reducible refine (spec_l1In.calls ((rd_T97 l0 x6_1).f0) 0 3000 true _ A8.out).mono ?_); exact fun _ _ h_ => ⟨h_.1, h_.2.out⟩))))
                          have nHB_ := Aside0.mk (pw_below_drewN (W := wr) ⟨HB.out.os, HB.out.tape, HB.out.output, HB.out.size, HB.out.block⟩ nq)
                          have nhx738_0_ : (wr.drewN nq).cell? _ = _ := hx738_0
                          have nhx738_1_ : (wr.drewN nq).cell? _ = _ := hx738_1
                          have nhx738_2_ : (wr.drewN nq).cell? _ = _ := hx738_2
                          have nhx740_0_ : (wr.drewN nq).cell? _ = _ := hx740_0
                          have nhx740_1_ : (wr.drewN nq).cell? _ = _ := hx740_1
                          have nhx740_2_ : (wr.drewN nq).cell? _ = _ := hx740_2
                          have nhx742_0_ : (wr.drewN nq).cell? _ = _ := hx742_0
                          have nhx742_1_ : (wr.drewN nq).cell? _ = _ := hx742_1
                          have nhx742_2_ : (wr.drewN nq).cell? _ = _ := hx742_2
                          have nhx743_0_ : (wr.drewN nq).cell? _ = _ := hx743_0
                          have nhx743_1_ : (wr.drewN nq).cell? _ = _ := hx743_1
                          have nhx743_2_ : (wr.drewN nq).cell? _ = _ := hx743_2
                          have nhx744_0_ : (wr.drewN nq).cell? _ = _ := hx744_0
                          have nhx744_1_ : (wr.drewN nq).cell? _ = _ := hx744_1
                          have nhx744_2_ : (wr.drewN nq).cell? _ = _ := hx744_2
                          have nhx745_0_ : (wr.drewN nq).cell? _ = _ := hx745_0
                          have nhx745_1_ : (wr.drewN nq).cell? _ = _ := hx745_1
                          have nhx745_2_ : (wr.drewN nq).cell? _ = _ := hx745_2
                          clear HB hx738_0 hx738_1 hx738_2 hx740_0 hx740_1 hx740_2 hx742_0 hx742_1 hx742_2 hx743_0 hx743_1 hx743_2 hx744_0 hx744_1 hx744_2 hx745_0 hx745_1 hx745_2 hq0_ hq1_ hq2_ hq3_ hq4_ hq5_ hq6_ hq7_ hq8_ hq9_ hq10_ hq11_ hq12_ hq13_ hq14_ hq15_ hq16_ hq17_
                          have HB := nHB_
                          have hx738_0 := nhx738_0_
                          have hx738_1 := nhx738_1_
                          have hx738_2 := nhx738_2_
                          have hx740_0 := nhx740_0_
                          have hx740_1 := nhx740_1_
                          have hx740_2 := nhx740_2_
                          have hx742_0 := nhx742_0_
                          have hx742_1 := nhx742_1_
                          have hx742_2 := nhx742_2_
                          have hx743_0 := nhx743_0_
                          have hx743_1 := nhx743_1_
                          have hx743_2 := nhx743_2_
                          have hx744_0 := nhx744_0_
                          have hx744_1 := nhx744_1_
                          have hx744_2 := nhx744_2_
                          have hx745_0 := nhx745_0_
                          have hx745_1 := nhx745_1_
                          have hx745_2 := nhx745_2_
                          clear nHB_ nhx738_0_ nhx738_1_ nhx738_2_ nhx740_0_ nhx740_1_ nhx740_2_ nhx742_0_ nhx742_1_ nhx742_2_ nhx743_0_ nhx743_1_ nhx743_2_ nhx744_0_ nhx744_1_ nhx744_2_ nhx745_0_ nhx745_1_ nhx745_2_
                          generalize wr.drewN nq = w16 at HB hx738_0 hx738_1 hx738_2 hx740_0 hx740_1 hx740_2 hx742_0 hx742_1 hx742_2 hx743_0 hx743_1 hx743_2 hx744_0 hx744_1 hx744_2 hx745_0 hx745_1 hx745_2 ⊢
                          try go_wp2
                          go_ret3
                          exact ⟨by first | rfl | (simp [errW_none, errW_some] <;> rfl) | (simp only [← hji11]; first | rfl | (simp [errW_none, errW_some] <;> rfl)) | (simp [*, errW_none, errW_some] <;> rfl), by repeat (first | (with_reducible first | exact HB.out | apply below_alloc | apply pw_below_drewN | apply below_drew1) | exact HB.out)⟩
                        · rw [if_neg c15] at H
                          have c15b0 : (((rd_T97 l0 x6_1).f2) != (decide ((wrap64 (x6_1 + 1)) < (l0.length : Int)))) = false := by simpa using c15
                          (try (have c15b1 : decide (((rd_T97 l0 x6_1).f2) = (decide ((wrap64 (x6_1 + 1)) < (l0.length : Int)))) = true := by simpa using c15))
                          (try (have c15b2 : (((rd_T97 l0 x6_1).f2) == (decide ((wrap64 (x6_1 + 1)) < (l0.length : Int)))) = true := by simpa using c15))
                          clear c15
                          have H' := Aside0.mk H
                          clear H
                          try go_wp2
                          have n0_ := Aside0.mk (below_drew1 HB.out)
                          clear HB
                          have HB := n0_
                          clear n0_
                          have p738 : 0 ≤ (x6_1 : Int) := of_decide_eq_true (by first | (with_reducible assumption) | assumption)
                          have q738 : x6_1 < (l0.length : Int) := of_decide_eq_true (by first | (with_reducible assumption) | assumption)
                          obtain ⟨ad738, e738, hx738_0, hx738_1, hx738_2⟩ := at_T97 HR0.out x6_1 p738 q738
                          have hw738_2 := hx738_2
                          have hw738_1 := hx738_1
                          have hw738_0 := hx738_0
                          cases e738
                          replace hx738_0 := (HB.out.cell (World.block_lt_of_cell? w _ hx738_0)).trans hx738_0
                          replace hx738_1 := (HB.out.cell (World.block_lt_of_cell? w _ hx738_1)).trans hx738_1
                          replace hx738_2 := (HB.out.cell (World.block_lt_of_cell? w _ hx738_2)).trans hx738_2
                          replace p738 := eq_true p738
                          replace q738 := eq_true q738
                          have p740 : 0 ≤ (x6_1 : Int) := of_decide_eq_true (by first | (with_reducible assumption) | assumption)
                          have q740 : x6_1 < (l0.length : Int) := of_decide_eq_true (by first | (with_reducible assumption) | assumption)
                          obtain ⟨ad740, e740, hx740_0, hx740_1, hx740_2⟩ := at_T97 HR0.out x6_1 p740 q740
                          have hw740_2 := hx740_2
                          have hw740_1 := hx740_1
                          have hw740_0 := hx740_0
                          obtain rfl : ad738 = ad740 := (by injection e740)
                          replace hx740_0 := (HB.out.cell (World.block_lt_of_cell? w _ hx740_0)).trans hx740_0
                          replace hx740_1 := (HB.out.cell (World.block_lt_of_cell? w _ hx740_1)).trans hx740_1
                          replace hx740_2 := (HB.out.cell (World.block_lt_of_cell? w _ hx740_2)).trans hx740_2
                          replace p740 := eq_true p740
                          replace q740 := eq_true q740
                          have p742 : 0 ≤ (x6_1 : Int) := of_decide_eq_true (by first | (with_reducible assumption) | assumption)
                          have q742 : x6_1 < (l0.length : Int) := of_decide_eq_true (by first | (with_reducible assumption) | assumption)
                          obtain ⟨ad742, e742, hx742_0, hx742_1, hx742_2⟩ := at_T97 HR0.out x6_1 p742 q742
                          have hw742_2 := hx742_2
                          have hw742_1 := hx742_1
                          have hw742_0 := hx742_0
                          obtain rfl : ad738 = ad742 := (by injection e742)
                          replace hx742_0 := (HB.out.cell (World.block_lt_of_cell? w _ hx742_0)).trans hx742_0
                          replace hx742_1 := (HB.out.cell (World.block_lt_of_cell? w _ hx742_1)).trans hx742_1
                          replace hx742_2 := (HB.out.cell (World.block_lt_of_cell? w _ hx742_2)).trans hx742_2
                          replace p742 := eq_true p742
                          replace q742 := eq_true q742
                          have p743 : 0 ≤ ((ji11) : Int) := of_decide_eq_true (by first | (with_reducible assumption) | assumption)
                          have q743 : (ji11) < (l0.length : Int) := of_decide_eq_true (by first | (with_reducible assumption) | assumption)
                          obtain ⟨ad743, e743, hx743_0, hx743_1, hx743_2⟩ := at_T97 HR0.out (ji11) p743 q743
                          have hw743_2 := hx743_2
                          have hw743_1 := hx743_1
                          have hw743_0 := hx743_0
                          obtain rfl : ad738 = ad743 := (by injection e743)
                          replace hx743_0 := (HB.out.cell (World.block_lt_of_cell? w _ hx743_0)).trans hx743_0
                          replace hx743_1 := (HB.out.cell (World.block_lt_of_cell? w _ hx743_1)).trans hx743_1
                          replace hx743_2 := (HB.out.cell (World.block_lt_of_cell? w _ hx743_2)).trans hx743_2
                          replace p743 := eq_true p743
                          replace q743 := eq_true q743
                          have p744 : 0 ≤ ((ji11) : Int) := of_decide_eq_true (by first | (with_reducible assumption) | assumption)
                          have q744 : (ji11) < (l0.length : Int) := of_decide_eq_true (by first | (with_reducible assumption) | assumption)
                          obtain ⟨ad744, e744, hx744_0, hx744_1, hx744_2⟩ := at_T97 HR0.out (ji11) p744 q744
                          have hw744_2 := hx744_2
                          have hw744_1 := hx744_1
                          have hw744_0 := hx744_0
                          obtain rfl : ad738 = ad744 := (by injection e744)
                          replace hx744_0 := (HB.out.cell (World.block_lt_of_cell? w _ hx744_0)).trans hx744_0
                          replace hx744_1 := (HB.out.cell (World.block_lt_of_cell? w _ hx744_1)).trans hx744_1
                          replace hx744_2 := (HB.out.cell (World.block_lt_of_cell? w _ hx744_2)).trans hx744_2
                          replace p744 := eq_true p744
                          replace q744 := eq_true q744
                          have p745 : 0 ≤ (x6_1 : Int) := of_decide_eq_true (by first | (with_reducible assumption) | assumption)
                          have q745 : x6_1 < (l0.length : Int) := of_decide_eq_true (by first | (with_reducible assumption) | assumption)
                          obtain ⟨ad745, e745, hx745_0, hx745_1, hx745_2⟩ := at_T97 HR0.out x6_1 p745 q745
                          have hw745_2 := hx745_2
                          have hw745_1 := hx745_1
                          have hw745_0 := hx745_0
                          obtain rfl : ad738 = ad745 := (by injection e745)
                          replace hx745_0 := (HB.out.cell (World.block_lt_of_cell? w _ hx745_0)).trans hx745_0
                          replace hx745_1 := (HB.out.cell (World.block_lt_of_cell? w _ hx745_1)).trans hx745_1
                          replace hx745_2 := (HB.out.cell (World.block_lt_of_cell? w _ hx745_2)).trans hx745_2
                          replace p745 := eq_true p745
                          replace q745 := eq_true q745
                          have hq0_ : wr.cell? (ad738.add ((x6_1).toNat * 3)) = some (.int .i64 ((rd_T97 l0 x6_1).f0)) := ((HB.out.cell (World.block_lt_of_cell? w _ hw738_0)).trans hw738_0)
                          have hq1_ : wr.cell? ⟨(ad738.add ((x6_1).toNat * 3)).block, (ad738.add ((x6_1).toNat * 3)).off + 1, none⟩ = some (.int .i64 ((rd_T97 l0 x6_1).f1)) := ((HB.out.cell (World.block_lt_of_cell? w _ hw738_1)).trans hw738_1)
                          have hq2_ : wr.cell? ⟨(ad738.add ((x6_1).toNat * 3)).block, (ad738.add ((x6_1).toNat * 3)).off + 2, none⟩ = some (.bool ((rd_T97 l0 x6_1).f2)) := ((HB.out.cell (World.block_lt_of_cell? w _ hw738_2)).trans hw738_2)
                          have hq3_ : wr.cell? (ad738.add ((x6_1).toNat * 3)) = some (.int .i64 ((rd_T97 l0 x6_1).f0)) := ((HB.out.cell (World.block_lt_of_cell? w _ hw740_0)).trans hw740_0)
                          have hq4_ : wr.cell? ⟨(ad738.add ((x6_1).toNat * 3)).block, (ad738.add ((x6_1).toNat * 3)).off + 1, none⟩ = some (.int .i64 ((rd_T97 l0 x6_1).f1)) := ((HB.out.cell (World.block_lt_of_cell? w _ hw740_1)).trans hw740_1)
                          have hq5_ : wr.cell? ⟨(ad738.add ((x6_1).toNat * 3)).block, (ad738.add ((x6_1).toNat * 3)).off + 2, none⟩ = some (.bool ((rd_T97 l0 x6_1).f2)) := ((HB.out.cell (World.block_lt_of_cell? w _ hw740_2)).trans hw740_2)
                          have hq6_ : wr.cell? (ad738.add ((x6_1).toNat * 3)) = some (.int .i64 ((rd_T97 l0 x6_1).f0)) := ((HB.out.cell (World.block_lt_of_cell? w _ hw742_0)).trans hw742_0)
                          have hq7_ : wr.cell? ⟨(ad738.add ((x6_1).toNat * 3)).block, (ad738.add ((x6_1).toNat * 3)).off + 1, none⟩ = some (.int .i64 ((rd_T97 l0 x6_1).f1)) := ((HB.out.cell (World.block_lt_of_cell? w _ hw742_1)).trans hw742_1)
                          have hq8_ : wr.cell? ⟨(ad738.add ((x6_1).toNat * 3)).block, (ad738.add ((x6_1).toNat * 3)).off + 2, none⟩ = some (.bool ((rd_T97 l0 x6_1).f2)) := ((HB.out.cell (World.block_lt_of_cell? w _ hw742_2)).trans hw742_2)
                          have hq9_ : wr.cell? (ad738.add (((ji11)).toNat * 3)) = some (.int .i64 ((rd_T97 l0 (ji11)).f0)) := ((HB.out.cell (World.block_lt_of_cell? w _ hw743_0)).trans hw743_0)
                          have hq10_ : wr.cell? ⟨(ad738.add (((ji11)).toNat * 3)).block, (ad738.add (((ji11)).toNat * 3)).off + 1, none⟩ = some (.int .i64 ((rd_T97 l0 (ji11)).f1)) := ((HB.out.cell (World.block_lt_of_cell? w _ hw743_1)).trans hw743_1)
                          have hq11_ : wr.cell? ⟨(ad738.add (((ji11)).toNat * 3)).block, (ad738.add (((ji11)).toNat * 3)).off + 2, none⟩ = some (.bool ((rd_T97 l0 (ji11)).f2)) := ((HB.out.cell (World.block_lt_of_cell? w _ hw743_2)).trans hw743_2)
                          have hq12_ : wr.cell? (ad738.add (((ji11)).toNat * 3)) = some (.int .i64 ((rd_T97 l0 (ji11)).f0)) := ((HB.out.cell (World.block_lt_of_cell? w _ hw744_0)).trans hw744_0)
                          have hq13_ : wr.cell? ⟨(ad738.add (((ji11)).toNat * 3)).block, (ad738.add (((ji11)).toNat * 3)).off + 1, none⟩ = some (.int .i64 ((rd_T97 l0 (ji11)).f1)) := ((HB.out.cell (World.block_lt_of_cell? w _ hw744_1)).trans hw744_1)
                          have hq14_ : wr.cell? ⟨(ad738.add (((ji11)).toNat * 3)).block, (ad738.add (((ji11)).toNat * 3)).off + 2, none⟩ = some (.bool ((rd_T97 l0 (ji11)).f2)) := ((HB.out.cell (World.block_lt_of_cell? w _ hw744_2)).trans hw744_2)
                          have hq15_ : wr.cell? (ad738.add ((x6_1).toNat * 3)) = some (.int .i64 ((rd_T97 l0 x6_1).f0)) := ((HB.out.cell (World.block_lt_of_cell? w _ hw745_0)).trans hw745_0)
                          have hq16_ : wr.cell? ⟨(ad738.add ((x6_1).toNat * 3)).block, (ad738.add ((x6_1).toNat * 3)).off + 1, none⟩ = some (.int .i64 ((rd_T97 l0 x6_1).f1)) := ((HB.out.cell (World.block_lt_of_cell? w _ hw745_1)).trans hw745_1)
                          have hq17_ : wr.cell? ⟨(ad738.add ((x6_1).toNat * 3)).block, (ad738.add ((x6_1).toNat * 3)).off + 2, none⟩ = some (.bool ((rd_T97 l0 x6_1).f2)) := ((HB.out.cell (World.block_lt_of_cell? w _ hw745_2)).trans hw745_2)
                          go_quiet ((first | (go_at_call 64; apply Calls.quiet_of; ((with_reducible refine (spec_l1In.calls ((rd_T97 l0 x6_1).f1) 1 96 true _ A6.out).mono ?_); exact fun _ _ h_ => ⟨h_.1, h_.2.out⟩)) | (go_at_call 64; apply Calls.quiet_of; ((with_reducible refine (spec_l1In.calls ((rd_T97 l0 x6_1).f0) 0 3000 true _ A8.out).mono ?_); exact fun _ _ h_ => ⟨h_.1, h_.2.out⟩))))
                          have nHB_ := Aside0.mk (pw_below_drewN (W := wr) ⟨HB.out.os, HB.out.tape, HB.out.output, HB.out.size, HB.out.block⟩ nq)
                          have nhx738_0_ : (wr.drewN nq).cell? _ = _ := hx738_0
                          have nhx738_1_ : (wr.drewN nq).cell? _ = _ := hx738_1
                          have nhx738_2_ : (wr.drewN nq).cell? _ = _ := hx738_2
                          have nhx740_0_ : (wr.drewN nq).cell? _ = _ := hx740_0
                          have nhx740_1_ : (wr.drewN nq).cell? _ = _ := hx740_1
                          have nhx740_2_ : (wr.drewN nq).cell? _ = _ := hx740_2
                          have nhx742_0_ : (wr.drewN nq).cell? _ = _ := hx742_0
                          have nhx742_1_ : (wr.drewN nq).cell? _ = _ := hx742_1
                          have nhx742_2_ : (wr.drewN nq).cell? _ = _ := hx742_2
                          have nhx743_0_ : (wr.drewN nq).cell? _ = _ := hx743_0
                          have nhx743_1_ : (wr.drewN nq).cell? _ = _ := hx743_1
                          have nhx743_2_ : (wr.drewN nq).cell? _ = _ := hx743_2
                          have nhx744_0_ : (wr.drewN nq).cell? _ = _ := hx744_0
                          have nhx744_1_ : (wr.drewN nq).cell? _ = _ := hx744_1
                          have nhx744_2_ : (wr.drewN nq).cell? _ = _ := hx744_2
                          have nhx745_0_ : (wr.drewN nq).cell? _ = _ := hx745_0
                          have nhx745_1_ : (wr.drewN nq).cell? _ = _ := hx745_1
                          have nhx745_2_ : (wr.drewN nq).cell? _ = _ := hx745_2
                          clear HB hx738_0 hx738_1 hx738_2 hx740_0 hx740_1 hx740_2 hx742_0 hx742_1 hx742_2 hx743_0 hx743_1 hx743_2 hx744_0 hx744_1 hx744_2 hx745_0 hx745_1 hx745_2 hq0_ hq1_ hq2_ hq3_ hq4_ hq5_ hq6_ hq7_ hq8_ hq9_ hq10_ hq11_ hq12_ hq13_ hq14_ hq15_ hq16_ hq17_
                          have HB := nHB_
                          have hx738_0 := nhx738_0_
                          have hx738_1 := nhx738_1_
                          have hx738_2 := nhx738_2_
                          have hx740_0 := nhx740_0_
                          have hx740_1 := nhx740_1_
                          have hx740_2 := nhx740_2_
                          have hx742_0 := nhx742_0_
                          have hx742_1 := nhx742_1_
                          have hx742_2 := nhx742_2_
                          have hx743_0 := nhx743_0_
                          have hx743_1 := nhx743_1_
                          have hx743_2 := nhx743_2_
                          have hx744_0 := nhx744_0_
                          have hx744_1 := nhx744_1_
                          have hx744_2 := nhx744_2_
                          have hx745_0 := nhx745_0_
                          have hx745_1 := nhx745_1_
                          have hx745_2 := nhx745_2_
                          clear nHB_ nhx738_0_ nhx738_1_ nhx738_2_ nhx740_0_ nhx740_1_ nhx740_2_ nhx742_0_ nhx742_1_ nhx742_2_ nhx743_0_ nhx743_1_ nhx743_2_ nhx744_0_ nhx744_1_ nhx744_2_ nhx745_0_ nhx745_1_ nhx745_2_
                          generalize wr.drewN nq = w17 at HB hx738_0 hx738_1 hx738_2 hx740_0 hx740_1 hx740_2 hx742_0 hx742_1 hx742_2 hx743_0 hx743_1 hx743_2 hx744_0 hx744_1 hx744_2 hx745_0 hx745_1 hx745_2 ⊢
                          have p746 : 0 ≤ (x6_1 : Int) := of_decide_eq_true (by first | (with_reducible assumption) | assumption)
                          have q746 : x6_1 < (l0.length : Int) := of_decide_eq_true (by first | (with_reducible assumption) | assumption)
                          obtain ⟨ad746, e746, hx746_0, hx746_1, hx746_2⟩ := at_T97 HR0.out x6_1 p746 q746
                          obtain rfl : ad738 = ad746 := (by injection e746)
                          replace hx746_0 := (HB.out.cell (World.block_lt_of_cell? w _ hx746_0)).trans hx746_0
                          replace hx746_1 := (HB.out.cell (World.block_lt_of_cell? w _ hx746_1)).trans hx746_1
                          replace hx746_2 := (HB.out.cell (World.block_lt_of_cell? w _ hx746_2)).trans hx746_2
                          replace p746 := eq_true p746
                          replace q746 := eq_true q746
                          try go_wp2
                          go_roundg k1
                          case measure => have := HK1.out; omega
                          case rel => exact ⟨(wrap64 (x5_1 + ((rd_T97 l0 x6_1).f1))), (wrap64 (x6_1 + 1)), (by first | rfl | (simp; done) | (simp [*]; done)), (by first | rfl | (simp; done) | (simp [*]; done)), H', ⟨by have := HK1.out; omega⟩, ⟨by repeat (first | (with_reducible first | exact HB.out | apply below_alloc | apply pw_below_drewN | apply below_drew1) | exact HB.out)⟩⟩
                      · rw [if_neg c14] at H
                        have c14b0 : (((rd_T97 l0 x6_1).f0) == (wrap64 (((rd_T97 l0 (ji11)).f0) + ((rd_T97 l0 (ji11)).f1)))) = false := beq_eq_false_iff_ne.mpr c14
                        have c14b1 : (((rd_T97 l0 x6_1).f0) != (wrap64 (((rd_T97 l0 (ji11)).f0) + ((rd_T97 l0 (ji11)).f1)))) = true := bne_iff_ne.mpr c14
                        simp only [Option.some.injEq, Prod.mk.injEq] at H
                        obtain ⟨rfl, rfl, rfl⟩ := H
                        try go_wp2
                        have n0_ := Aside0.mk (below_drew1 HB.out)
                        clear HB
                        have HB := n0_
                        clear n0_
                        have p738 : 0 ≤ (x6_1 : Int) := of_decide_eq_true (by first | (with_reducible assumption) | assumption)
                        have q738 : x6_1 < (l0.length : Int) := of_decide_eq_true (by first | (with_reducible assumption) | assumption)
                        obtain ⟨ad738, e738, hx738_0, hx738_1, hx738_2⟩ := at_T97 HR0.out x6_1 p738 q738
                        have hw738_2 := hx738_2
                        have hw738_1 := hx738_1
                        have hw738_0 := hx738_0
                        cases e738
                        replace hx738_0 := (HB.out.cell (World.block_lt_of_cell? w _ hx738_0)).trans hx738_0
                        replace hx738_1 := (HB.out.cell (World.block_lt_of_cell? w _ hx738_1)).trans hx738_1
                        replace hx738_2 := (HB.out.cell (World.block_lt_of_cell? w _ hx738_2)).trans hx738_2
                        replace p738 := eq_true p738
                        replace q738 := eq_true q738
                        have p740 : 0 ≤ (x6_1 : Int) := of_decide_eq_true (by first | (with_reducible assumption) | assumption)
                        have q740 : x6_1 < (l0.length : Int) := of_decide_eq_true (by first | (with_reducible assumption) | assumption)
                        obtain ⟨ad740, e740, hx740_0, hx740_1, hx740_2⟩ := at_T97 HR0.out x6_1 p740 q740
                        have hw740_2 := hx740_2
                        have hw740_1 := hx740_1
                        have hw740_0 := hx740_0
                        obtain rfl : ad738 = ad740 := (by injection e740)
                        replace hx740_0 := (HB.out.cell (World.block_lt_of_cell? w _ hx740_0)).trans hx740_0
                        replace hx740_1 := (HB.out.cell (World.block_lt_of_cell? w _ hx740_1)).trans hx740_1
                        replace hx740_2 := (HB.out.cell (World.block_lt_of_cell? w _ hx740_2)).trans hx740_2
                        replace p740 := eq_true p740
                        replace q740 := eq_true q740
                        have p742 : 0 ≤ (x6_1 : Int) := of_decide_eq_true (by first | (with_reducible assumption) | assumption)
                        have q742 : x6_1 < (l0.length : Int) := of_decide_eq_true (by first | (with_reducible assumption) | assumption)
                        obtain ⟨ad742, e742, hx742_0, hx742_1, hx742_2⟩ := at_T97 HR0.out x6_1 p742 q742
                        have hw742_2 := hx742_2
                        have hw742_1 := hx742_1
                        have hw742_0 := hx742_0
                        obtain rfl : ad738 = ad742 := (by injection e742)
                        replace hx742_0 := (HB.out.cell (World.block_lt_of_cell? w _ hx742_0)).trans hx742_0
                        replace hx742_1 := (HB.out.cell (World.block_lt_of_cell? w _ hx742_1)).trans hx742_1
                        replace hx742_2 := (HB.out.cell (World.block_lt_of_cell? w _ hx742_2)).trans hx742_2
                        replace p742 := eq_true p742
                        replace q742 := eq_true q742
                        have p743 : 0 ≤ ((ji11) : Int) := of_decide_eq_true (by first | (with_reducible assumption) | assumption)
                        have q743 : (ji11) < (l0.length : Int) := of_decide_eq_true (by first | (with_reducible assumption) | assumption)
                        obtain ⟨ad743, e743, hx743_0, hx743_1, hx743_2⟩ := at_T97 HR0.out (ji11) p743 q743
                        have hw743_2 := hx743_2
                        have hw743_1 := hx743_1
                        have hw743_0 := hx743_0
                        obtain rfl : ad738 = ad743 := (by injection e743)
                        replace hx743_0 := (HB.out.cell (World.block_lt_of_cell? w _ hx743_0)).trans hx743_0
                        replace hx743_1 := (HB.out.cell (World.block_lt_of_cell? w _ hx743_1)).trans hx743_1
                        replace hx743_2 := (HB.out.cell (World.block_lt_of_cell? w _ hx743_2)).trans hx743_2
                        replace p743 := eq_true p743
                        replace q743 := eq_true q743
                        have p744 : 0 ≤ ((ji11) : Int) := of_decide_eq_true (by first | (with_reducible assumption) | assumption)
                        have q744 : (ji11) < (l0.length : Int) := of_decide_eq_true (by first | (with_reducible assumption) | assumption)
                        obtain ⟨ad744, e744, hx744_0, hx744_1, hx744_2⟩ := at_T97 HR0.out (ji11) p744 q744
                        have hw744_2 := hx744_2
                        have hw744_1 := hx744_1
                        have hw744_0 := hx744_0
                        obtain rfl : ad738 = ad744 := (by injection e744)
                        replace hx744_0 := (HB.out.cell (World.block_lt_of_cell? w _ hx744_0)).trans hx744_0
                        replace hx744_1 := (HB.out.cell (World.block_lt_of_cell? w _ hx744_1)).trans hx744_1
                        replace hx744_2 := (HB.out.cell (World.block_lt_of_cell? w _ hx744_2)).trans hx744_2
                        replace p744 := eq_true p744
                        replace q744 := eq_true q744
                        have hq0_ : wr.cell? (ad738.add ((x6_1).toNat * 3)) = some (.int .i64 ((rd_T97 l0 x6_1).f0)) := ((HB.out.cell (World.block_lt_of_cell? w _ hw738_0)).trans hw738_0)
                        have hq1_ : wr.cell? ⟨(ad738.add ((x6_1).toNat * 3)).block, (ad738.add ((x6_1).toNat * 3)).off + 1, none⟩ = some (.int .i64 ((rd_T97 l0 x6_1).f1)) := ((HB.out.cell (World.block_lt_of_cell? w _ hw738_1)).trans hw738_1)
                        have hq2_ : wr.cell? ⟨(ad738.add ((x6_1).toNat * 3)).block, (ad738.add ((x6_1).toNat * 3)).off + 2, none⟩ = some (.bool ((rd_T97 l0 x6_1).f2)) := ((HB.out.cell (World.block_lt_of_cell? w _ hw738_2)).trans hw738_2)
                        have hq3_ : wr.cell? (ad738.add ((x6_1).toNat * 3)) = some (.int .i64 ((rd_T97 l0 x6_1).f0)) := ((HB.out.cell (World.block_lt_of_cell? w _ hw740_0)).trans hw740_0)
                        have hq4_ : wr.cell? ⟨(ad738.add ((x6_1).toNat * 3)).block, (ad738.add ((x6_1).toNat * 3)).off + 1, none⟩ = some (.int .i64 ((rd_T97 l0 x6_1).f1)) := ((HB.out.cell (World.block_lt_of_cell? w _ hw740_1)).trans hw740_1)
                        have hq5_ : wr.cell? ⟨(ad738.add ((x6_1).toNat * 3)).block, (ad738.add ((x6_1).toNat * 3)).off + 2, none⟩ = some (.bool ((rd_T97 l0 x6_1).f2)) := ((HB.out.cell (World.block_lt_of_cell? w _ hw740_2)).trans hw740_2)
                        have hq6_ : wr.cell? (ad738.add ((x6_1).toNat * 3)) = some (.int .i64 ((rd_T97 l0 x6_1).f0)) := ((HB.out.cell (World.block_lt_of_cell? w _ hw742_0)).trans hw742_0)
                        have hq7_ : wr.cell? ⟨(ad738.add ((x6_1).toNat * 3)).block, (ad738.add ((x6_1).toNat * 3)).off + 1, none⟩ = some (.int .i64 ((rd_T97 l0 x6_1).f1)) := ((HB.out.cell (World.block_lt_of_cell? w _ hw742_1)).trans hw742_1)
                        have hq8_ : wr.cell? ⟨(ad738.add ((x6_1).toNat * 3)).block, (ad738.add ((x6_1).toNat * 3)).off + 2, none⟩ = some (.bool ((rd_T97 l0 x6_1).f2)) := ((HB.out.cell (World.block_lt_of_cell? w _ hw742_2)).trans hw742_2)
                        have hq9_ : wr.cell? (ad738.add (((ji11)).toNat * 3)) = some (.int .i64 ((rd_T97 l0 (ji11)).f0)) := ((HB.out.cell (World.block_lt_of_cell? w _ hw743_0)).trans hw743_0)
                        have hq10_ : wr.cell? ⟨(ad738.add (((ji11)).toNat * 3)).block, (ad738.add (((ji11)).toNat * 3)).off + 1, none⟩ = some (.int .i64 ((rd_T97 l0 (ji11)).f1)) := ((HB.out.cell (World.block_lt_of_cell? w _ hw743_1)).trans hw743_1)
                        have hq11_ : wr.cell? ⟨(ad738.add (((ji11)).toNat * 3)).block, (ad738.add (((ji11)).toNat * 3)).off + 2, none⟩ = some (.bool ((rd_T97 l0 (ji11)).f2)) := ((HB.out.cell (World.block_lt_of_cell? w _ hw743_2)).trans hw743_2)
                        have hq12_ : wr.cell? (ad738.add (((ji11)).toNat * 3)) = some (.int .i64 ((rd_T97 l0 (ji11)).f0)) := ((HB.out.cell (World.block_lt_of_cell? w _ hw744_0)).trans hw744_0)
                        have hq13_ : wr.cell? ⟨(ad738.add (((ji11)).toNat * 3)).block, (ad738.add (((ji11)).toNat * 3)).off + 1, none⟩ = some (.int .i64 ((rd_T97 l0 (ji11)).f1)) := ((HB.out.cell (World.block_lt_of_cell? w _ hw744_1)).trans hw744_1)
                        have hq14_ : wr.cell? ⟨(ad738.add (((ji11)).toNat * 3)).block, (ad738.add (((ji11)).toNat * 3)).off + 2, none⟩ = some (.bool ((rd_T97 l0 (ji11)).f2)) := ((HB.out.cell (World.block_lt_of_cell? w _ hw744_2)).trans hw744_2)
                        go_quiet ((first | (go_at_call 64; apply Calls.quiet_of; ((with_reducible refine (spec_l1In.calls ((rd_T97 l0 x6_1).f1) 1 96 true _ A6.out).mono ?_); exact fun _ _ h_ => ⟨h_.1, h_.2.out⟩)) | (go_at_call 64; apply Calls.quiet_of; ((with_reducible refine (spec_l1In.calls ((rd_T97 l0 x6_1).f0) 0 3000 true _ A8.out).mono ?_); exact fun _ _ h_ => ⟨h_.1, h_.2.out⟩))))
                        have nHB_ := Aside0.mk (pw_below_drewN (W := wr) ⟨HB.out.os, HB.out.tape, HB.out.output, HB.out.size, HB.out.block⟩ nq)
                        have nhx738_0_ : (wr.drewN nq).cell? _ = _ := hx738_0
                        have nhx738_1_ : (wr.drewN nq).cell? _ = _ := hx738_1
                        have nhx738_2_ : (wr.drewN nq).cell? _ = _ := hx738_2
                        have nhx740_0_ : (wr.drewN nq).cell? _ = _ := hx740_0
                        have nhx740_1_ : (wr.drewN nq).cell? _ = _ := hx740_1
                        have nhx740_2_ : (wr.drewN nq).cell? _ = _ := hx740_2
                        have nhx742_0_ : (wr.drewN nq).cell? _ = _ := hx742_0
                        have nhx742_1_ : (wr.drewN nq).cell? _ = _ := hx742_1
                        have nhx742_2_ : (wr.drewN nq).cell? _ = _ := hx742_2
                        have nhx743_0_ : (wr.drewN nq).cell? _ = _ := hx743_0
                        have nhx743_1_ : (wr.drewN nq).cell? _ = _ := hx743_1
                        have nhx743_2_ : (wr.drewN nq).cell? _ = _ := hx743_2
                        have nhx744_0_ : (wr.drewN nq).cell? _ = _ := hx744_0
                        have nhx744_1_ : (wr.drewN nq).cell? _ = _ := hx744_1
                        have nhx744_2_ : (wr.drewN nq).cell? _ = _ := hx744_2
                        clear HB hx738_0 hx738_1 hx738_2 hx740_0 hx740_1 hx740_2 hx742_0 hx742_1 hx742_2 hx743_0 hx743_1 hx743_2 hx744_0 hx744_1 hx744_2 hq0_ hq1_ hq2_ hq3_ hq4_ hq5_ hq6_ hq7_ hq8_ hq9_ hq10_ hq11_ hq12_ hq13_ hq14_
                        have HB := nHB_
                        have hx738_0 := nhx738_0_
                        have hx738_1 := nhx738_1_
                        have hx738_2 := nhx738_2_
                        have hx740_0 := nhx740_0_
                        have hx740_1 := nhx740_1_
                        have hx740_2 := nhx740_2_
                        have hx742_0 := nhx742_0_
                        have hx742_1 := nhx742_1_
                        have hx742_2 := nhx742_2_
                        have hx743_0 := nhx743_0_
                        have hx743_1 := nhx743_1_
                        have hx743_2 := nhx743_2_
                        have hx744_0 := nhx744_0_
                        have hx744_1 := nhx744_1_
                        have hx744_2 := nhx744_2_
                        clear nHB_ nhx738_0_ nhx738_1_ nhx738_2_ nhx740_0_ nhx740_1_ nhx740_2_ nhx742_0_ nhx742_1_ nhx742_2_ nhx743_0_ nhx743_1_ nhx743_2_ nhx744_0_ nhx744_1_ nhx744_2_
                        generalize wr.drewN nq = w18 at HB hx738_0 hx738_1 hx738_2 hx740_0 hx740_1 hx740_2 hx742_0 hx742_1 hx742_2 hx743_0 hx743_1 hx743_2 hx744_0 hx744_1 hx744_2 ⊢
                        try go_wp2
                        go_ret3
                        exact ⟨by first | rfl | (simp [errW_none, errW_some] <;> rfl) | (simp only [← hji11]; first | rfl | (simp [errW_none, errW_some] <;> rfl)) | (simp [*, errW_none, errW_some] <;> rfl), by repeat (first | (with_reducible first | exact HB.out | apply below_alloc | apply pw_below_drewN | apply below_drew1) | exact HB.out)⟩
                    · rw [if_neg c13] at H
                      exact absurd H (by simp)
                  · rw [if_neg c12] at H
                    exact absurd H (by simp)
                · rw [if_neg c10] at H
                  have c10b0 : decide (0 < x6_1) = false := decide_eq_false c10
                  clear c10
                  by_cases c19 : (((rd_T97 l0 x6_1).f2) != (decide ((wrap64 (x6_1 + 1)) < (l0.length : Int)))) = true
                  · rw [if_pos c19] at H
                    have c19b0 : (((rd_T97 l0 x6_1).f2) != (decide ((wrap64 (x6_1 + 1)) < (l0.length : Int)))) = true := c19
                    (try (have c19b1 : decide (((rd_T97 l0 x6_1).f2) = (decide ((wrap64 (x6_1 + 1)) < (l0.length : Int)))) = false := by simpa using c19))
                    (try (have c19b2 : (((rd_T97 l0 x6_1).f2) == (decide ((wrap64 (x6_1 + 1)) < (l0.length : Int)))) = false := by simpa using c19))
                    (try (have c19b3 : ¬ (((rd_T97 l0 x6_1).f2) = (decide ((wrap64 (x6_1 + 1)) < (l0.length : Int)))) := by simpa using c19))
                    clear c19
                    simp only [Option.some.injEq, Prod.mk.injEq] at H
                    obtain ⟨rfl, rfl, rfl⟩ := H
                    try go_wp2
                    have n0_ := Aside0.mk (below_drew1 HB.out)
                    clear HB
                    have HB := n0_
                    clear n0_
                    have p738 : 0 ≤ (x6_1 : Int) := of_decide_eq_true (by first | (with_reducible assumption) | assumption)
                    have q738 : x6_1 < (l0.length : Int) := of_decide_eq_true (by first | (with_reducible assumption) | assumption)
                    obtain ⟨ad738, e738, hx738_0, hx738_1, hx738_2⟩ := at_T97 HR0.out x6_1 p738 q738
                    have hw738_2 := hx738_2
                    have hw738_1 := hx738_1
                    have hw738_0 := hx738_0
                    cases e738
                    replace hx738_0 := (HB.out.cell (World.block_lt_of_cell? w _ hx738_0)).trans hx738_0
                    replace hx738_1 := (HB.out.cell (World.block_lt_of_cell? w _ hx738_1)).trans hx738_1
                    replace hx738_2 := (HB.out.cell (World.block_lt_of_cell? w _ hx738_2)).trans hx738_2
                    replace p738 := eq_true p738
                    replace q738 := eq_true q738
                    have p740 : 0 ≤ (x6_1 : Int) := of_decide_eq_true (by first | (with_reducible assumption) | assumption)
                    have q740 : x6_1 < (l0.length : Int) := of_decide_eq_true (by first | (with_reducible assumption) | assumption)
                    obtain ⟨ad740, e740, hx740_0, hx740_1, hx740_2⟩ := at_T97 HR0.out x6_1 p740 q740
                    have hw740_2 := hx740_2
                    have hw740_1 := hx740_1
                    have hw740_0 := hx740_0
                    obtain rfl : ad738 = ad740 := (by injection e740)
                    replace hx740_0 := (HB.out.cell (World.block_lt_of_cell? w _ hx740_0)).trans hx740_0
                    replace hx740_1 := (HB.out.cell (World.block_lt_of_cell? w _ hx740_1)).trans hx740_1
                    replace hx740_2 := (HB.out.cell (World.block_lt_of_cell? w _ hx740_2)).trans hx740_2
                    replace p740 := eq_true p740
                    replace q740 := eq_true q740
                    have p747 : 0 ≤ (x6_1 : Int) := of_decide_eq_true (by first | (with_reducible assumption) | assumption)
                    have q747 : x6_1 < (l0.length : Int) := of_decide_eq_true (by first | (with_reducible assumption) | assumption)
                    obtain ⟨ad747, e747, hx747_0, hx747_1, hx747_2⟩ := at_T97 HR0.out x6_1 p747 q747
                    have hw747_2 := hx747_2
                    have hw747_1 := hx747_1
                    have hw747_0 := hx747_0
                    obtain rfl : ad738 = ad747 := (by injection e747)
                    replace hx747_0 := (HB.out.cell (World.block_lt_of_cell? w _ hx747_0)).trans hx747_0
                    replace hx747_1 := (HB.out.cell (World.block_lt_of_cell? w _ hx747_1)).trans hx747_1
                    replace hx747_2 := (HB.out.cell (World.block_lt_of_cell? w _ hx747_2)).trans hx747_2
                    replace p747 := eq_true p747
                    replace q747 := eq_true q747
                    have hq0_ : wr.cell? (ad738.add ((x6_1).toNat * 3)) = some (.int .i64 ((rd_T97 l0 x6_1).f0)) := ((HB.out.cell (World.block_lt_of_cell? w _ hw738_0)).trans hw738_0)
                    have hq1_ : wr.cell? ⟨(ad738.add ((x6_1).toNat * 3)).block, (ad738.add ((x6_1).toNat * 3)).off + 1, none⟩ = some (.int .i64 ((rd_T97 l0 x6_1).f1)) := ((HB.out.cell (World.block_lt_of_cell? w _ hw738_1)).trans hw738_1)
                    have hq2_ : wr.cell? ⟨(ad738.add ((x6_1).toNat * 3)).block, (ad738.add ((x6_1).toNat * 3)).off + 2, none⟩ = some (.bool ((rd_T97 l0 x6_1).f2)) := ((HB.out.cell (World.block_lt_of_cell? w _ hw738_2)).trans hw738_2)
                    have hq3_ : wr.cell? (ad738.add ((x6_1).toNat * 3)) = some (.int .i64 ((rd_T97 l0 x6_1).f0)) := ((HB.out.cell (World.block_lt_of_cell? w _ hw740_0)).trans hw740_0)
                    have hq4_ : wr.cell? ⟨(ad738.add ((x6_1).toNat * 3)).block, (ad738.add ((x6_1).toNat * 3)).off + 1, none⟩ = some (.int .i64 ((rd_T97 l0 x6_1).f1)) := ((HB.out.cell (World.block_lt_of_cell? w _ hw740_1)).trans hw740_1)
                    have hq5_ : wr.cell? ⟨(ad738.add ((x6_1).toNat * 3)).block, (ad738.add ((x6_1).toNat * 3)).off + 2, none⟩ = some (.bool ((rd_T97 l0 x6_1).f2)) := ((HB.out.cell (World.block_lt_of_cell? w _ hw740_2)).trans hw740_2)
                    have hq6_ : wr.cell? (ad738.add ((x6_1).toNat * 3)) = some (.int .i64 ((rd_T97 l0 x6_1).f0)) := ((HB.out.cell (World.block_lt_of_cell? w _ hw747_0)).trans hw747_0)
                    have hq7_ : wr.cell? ⟨(ad738.add ((x6_1).toNat * 3)).block, (ad738.add ((x6_1).toNat * 3)).off + 1, none⟩ = some (.int .i64 ((rd_T97 l0 x6_1).f1)) := ((HB.out.cell (World.block_lt_of_cell? w _ hw747_1)).trans hw747_1)
                    have hq8_ : wr.cell? ⟨(ad738.add ((x6_1).toNat * 3)).block, (ad738.add ((x6_1).toNat * 3)).off + 2, none⟩ = some (.bool ((rd_T97 l0 x6_1).f2)) := ((HB.out.cell (World.block_lt_of_cell? w _ hw747_2)).trans hw747_2)
                    go_quiet ((first | (go_at_call 64; apply Calls.quiet_of; ((with_reducible refine (spec_l1In.calls ((rd_T97 l0 x6_1).f1) 1 96 true _ A6.out).mono ?_); exact fun _ _ h_ => ⟨h_.1, h_.2.out⟩)) | (go_at_call 64; apply Calls.quiet_of; ((with_reducible refine (spec_l1In.calls ((rd_T97 l0 x6_1).f0) 0 3000 true _ A8.out).mono ?_); exact fun _ _ h_ => ⟨h_.1, h_.2.out⟩))))
                    have nHB_ := Aside0.mk (pw_below_drewN (W := wr) ⟨HB.out.os, HB.out.tape, HB.out.output, HB.out.size, HB.out.block⟩ nq)
                    have nhx738_0_ : (wr.drewN nq).cell? _ = _ := hx738_0
                    have nhx738_1_ : (wr.drewN nq).cell? _ = _ := hx738_1
                    have nhx738_2_ : (wr.drewN nq).cell? _ = _ := hx738_2
                    have nhx740_0_ : (wr.drewN nq).cell? _ = _ := hx740_0
                    have nhx740_1_ : (wr.drewN nq).cell? _ = _ := hx740_1
                    have nhx740_2_ : (wr.drewN nq).cell? _ = _ := hx740_2
                    have nhx747_0_ : (wr.drewN nq).cell? _ = _ := hx747_0
                    have nhx747_1_ : (wr.drewN nq).cell? _ = _ := hx747_1
                    have nhx747_2_ : (wr.drewN nq).cell? _ = _ := hx747_2
                    clear HB hx738_0 hx738_1 hx738_2 hx740_0 hx740_1 hx740_2 hx747_0 hx747_1 hx747_2 hq0_ hq1_ hq2_ hq3_ hq4_ hq5_ hq6_ hq7_ hq8_
                    have HB := nHB_
                    have hx738_0 := nhx738_0_
                    have hx738_1 := nhx738_1_
                    have hx738_2 := nhx738_2_
                    have hx740_0 := nhx740_0_
                    have hx740_1 := nhx740_1_
                    have hx740_2 := nhx740_2_
                    have hx747_0 := nhx747_0_
                    have hx747_1 := nhx747_1_
                    have hx747_2 := nhx747_2_
                    clear nHB_ nhx738_0_ nhx738_1_ nhx738_2_ nhx740_0_ nhx740_1_ nhx740_2_ nhx747_0_ nhx747_1_ nhx747_2_
                    generalize wr.drewN nq = w20 at HB hx738_0 hx738_1 hx738_2 hx740_0 hx740_1 hx740_2 hx747_0 hx747_1 hx747_2 ⊢
                    try go_wp2
                    go_ret3
                    exact ⟨by first | rfl | (simp [errW_none, errW_some] <;> rfl) | (simp [*, errW_none, errW_some] <;> rfl), by repeat (first | (with_reducible first | exact HB.out | apply below_alloc | apply pw_below_drewN | apply below_drew1) | exact HB.out)⟩
                  · rw [if_neg c19] at H
                    have c19b0 : (((rd_T97 l0 x6_1).f2) != (decide ((wrap64 (x6_1 + 1)) < (l0.length : Int)))) = false := by simpa using c19
                    (try (have c19b1 : decide (((rd_T97 l0 x6_1).f2) = (decide ((wrap64 (x6_1 + 1)) < (l0.length : Int)))) = true := by simpa using c19))
                    (try (have c19b2 : (((rd_T97 l0 x6_1).f2) == (decide ((wrap64 (x6_1 + 1)) < (l0.length : Int)))) = true := by simpa using c19))
                    clear c19
                    have H' := Aside0.mk H
                    clear H
                    try go_wp2
                    have n0_ := Aside0.mk (below_drew1 HB.out)
                    clear HB
                    have HB := n0_
                    clear n0_
                    have p738 : 0 ≤ (x6_1 : Int) := of_decide_eq_true (by first | (with_reducible assumption) | assumption)
                    have q738 : x6_1 < (l0.length : Int) := of_decide_eq_true (by first | (with_reducible assumption) | assumption)
                    obtain ⟨ad738, e738, hx738_0, hx738_1, hx738_2⟩ := at_T97 HR0.out x6_1 p738 q738
                    have hw738_2 := hx738_2
                    have hw738_1 := hx738_1
                    have hw738_0 := hx738_0
                    cases e738
                    replace hx738_0 := (HB.out.cell (World.block_lt_of_cell? w _ hx738_0)).trans hx738_0
                    replace hx738_1 := (HB.out.cell (World.block_lt_of_cell? w _ hx738_1)).trans hx738_1
                    replace hx738_2 := (HB.out.cell (World.block_lt_of_cell? w _ hx738_2)).trans hx738_2
                    replace p738 := eq_true p738
                    replace q738 := eq_true q738
                    have p740 : 0 ≤ (x6_1 : Int) := of_decide_eq_true (by first | (with_reducible assumption) | assumption)
                    have q740 : x6_1 < (l0.length : Int) := of_decide_eq_true (by first | (with_reducible assumption) | assumption)
                    obtain ⟨ad740, e740, hx740_0, hx740_1, hx740_2⟩ := at_T97 HR0.out x6_1 p740 q740
                    have hw740_2 := hx740_2
                    have hw740_1 := hx740_1
                    have hw740_0 := hx740_0
                    obtain rfl : ad738 = ad740 := (by injection e740)
                    replace hx740_0 := (HB.out.cell (World.block_lt_of_cell? w _ hx740_0)).trans hx740_0
                    replace hx740_1 := (HB.out.cell (World.block_lt_of_cell? w _ hx740_1)).trans hx740_1
                    replace hx740_2 := (HB.out.cell (World.block_lt_of_cell? w _ hx740_2)).trans hx740_2
                    replace p740 := eq_true p740
                    replace q740 := eq_true q740
                    have p747 : 0 ≤ (x6_1 : Int) := of_decide_eq_true (by first | (with_reducible assumption) | assumption)
                    have q747 : x6_1 < (l0.length : Int) := of_decide_eq_true (by first | (with_reducible assumption) | assumption)
                    obtain ⟨ad747, e747, hx747_0, hx747_1, hx747_2⟩ := at_T97 HR0.out x6_1 p747 q747
                    have hw747_2 := hx747_2
                    have hw747_1 := hx747_1
                    have hw747_0 := hx747_0
                    obtain rfl : ad738 = ad747 := (by injection e747)
                    replace hx747_0 := (HB.out.cell (World.block_lt_of_cell? w _ hx747_0)).trans hx747_0
                    replace hx747_1 := (HB.out.cell (World.block_lt_of_cell? w _ hx747_1)).trans hx747_1
                    replace hx747_2 := (HB.out.cell (World.block_lt_of_cell? w _ hx747_2)).trans hx747_2
                    replace p747 := eq_true p747
                    replace q747 := eq_true q747
                    have hq0_ : wr.cell? (ad738.add ((x6_1).toNat * 3)) = some (.int .i64 ((rd_T97 l0 x6_1).f0)) := ((HB.out.cell (World.block_lt_of_cell? w _ hw738_0)).trans hw738_0)
                    have hq1_ : wr.cell? ⟨(ad738.add ((x6_1).toNat * 3)).block, (ad738.add ((x6_1).toNat * 3)).off + 1, none⟩ = some (.int .i64 ((rd_T97 l0 x6_1).f1)) := ((HB.out.cell (World.block_lt_of_cell? w _ hw738_1)).trans hw738_1)
                    have hq2_ : wr.cell? ⟨(ad738.add ((x6_1).toNat * 3)).block, (ad738.add ((x6_1).toNat * 3)).off + 2, none⟩ = some (.bool ((rd_T97 l0 x6_1).f2)) := ((HB.out.cell (World.block_lt_of_cell? w _ hw738_2)).trans hw738_2)
                    have hq3_ : wr.cell? (ad738.add ((x6_1).toNat * 3)) = some (.int .i64 ((rd_T97 l0 x6_1).f0)) := ((HB.out.cell (World.block_lt_of_cell? w _ hw740_0)).trans hw740_0)
                    have hq4_ : wr.cell? ⟨(ad738.add ((x6_1).toNat * 3)).block, (ad738.add ((x6_1).toNat * 3)).off + 1, none⟩ = some (.int .i64 ((rd_T97 l0 x6_1).f1)) := ((HB.out.cell (World.block_lt_of_cell? w _ hw740_1)).trans hw740_1)
                    have hq5_ : wr.cell? ⟨(ad738.add ((x6_1).toNat * 3)).block, (ad738.add ((x6_1).toNat * 3)).off + 2, none⟩ = some (.bool ((rd_T97 l0 x6_1).f2)) := ((HB.out.cell (World.block_lt_of_cell? w _ hw740_2)).trans hw740_2)
                    have hq6_ : wr.cell? (ad738.add ((x6_1).toNat * 3)) = some (.int .i64 ((rd_T97 l0 x6_1).f0)) := ((HB.out.cell (World.block_lt_of_cell? w _ hw747_0)).trans hw747_0)
                    have hq7_ : wr.cell? ⟨(ad738.add ((x6_1).toNat * 3)).block, (ad738.add ((x6_1).toNat * 3)).off + 1, none⟩ = some (.int .i64 ((rd_T97 l0 x6_1).f1)) := ((HB.out.cell (World.block_lt_of_cell? w _ hw747_1)).trans hw747_1)
                    have hq8_ : wr.cell? ⟨(ad738.add ((x6_1).toNat * 3)).block, (ad738.add ((x6_1).toNat * 3)).off + 2, none⟩ = some (.bool ((rd_T97 l0 x6_1).f2)) := ((HB.out.cell (World.block_lt_of_cell? w _ hw747_2)).trans hw747_2)
                    go_quiet ((first | (go_at_call 64; apply Calls.quiet_of; ((with_reducible refine (spec_l1In.calls ((rd_T97 l0 x6_1).f1) 1 96 true _ A6.out).mono ?_); exact fun _ _ h_ => ⟨h_.1, h_.2.out⟩)) | (go_at_call 64; apply Calls.quiet_of; ((with_reducible refine (spec_l1In.calls ((rd_T97 l0 x6_1).f0) 0 3000 true _ A8.out).mono ?_); exact fun _ _ h_ => ⟨h_.1, h_.2.out⟩))))
                    have nHB_ := Aside0.mk (pw_below_drewN (W := wr) ⟨HB.out.os, HB.out.tape, HB.out.output, HB.out.size, HB.out.block⟩ nq)
                    have nhx738_0_ : (wr.drewN nq).cell? _ = _ := hx738_0
                    have nhx738_1_ : (wr.drewN nq).cell? _ = _ := hx738_1
                    have nhx738_2_ : (wr.drewN nq).cell? _ = _ := hx738_2
                    have nhx740_0_ : (wr.drewN nq).cell? _ = _ := hx740_0
                    have nhx740_1_ : (wr.drewN nq).cell? _ = _ := hx740_1
                    have nhx740_2_ : (wr.drewN nq).cell? _ = _ := hx740_2
                    have nhx747_0_ : (wr.drewN nq).cell? _ = _ := hx747_0
                    have nhx747_1_ : (wr.drewN nq).cell? _ = _ := hx747_1
                    have nhx747_2_ : (wr.drewN nq).cell? _ = _ := hx747_2
                    clear HB hx738_0 hx738_1 hx738_2 hx740_0 hx740_1 hx740_2 hx747_0 hx747_1 hx747_2 hq0_ hq1_ hq2_ hq3_ hq4_ hq5_ hq6_ hq7_ hq8_
                    have HB := nHB_
                    have hx738_0 := nhx738_0_
                    have hx738_1 := nhx738_1_
                    have hx738_2 := nhx738_2_
                    have hx740_0 := nhx740_0_
                    have hx740_1 := nhx740_1_
                    have hx740_2 := nhx740_2_
                    have hx747_0 := nhx747_0_
                    have hx747_1 := nhx747_1_
                    have hx747_2 := nhx747_2_
                    clear nHB_ nhx738_0_ nhx738_1_ nhx738_2_ nhx740_0_ nhx740_1_ nhx740_2_ nhx747_0_ nhx747_1_ nhx747_2_
                    generalize wr.drewN nq = w21 at HB hx738_0 hx738_1 hx738_2 hx740_0 hx740_1 hx740_2 hx747_0 hx747_1 hx747_2 ⊢
                    have p748 : 0 ≤ (x6_1 : Int) := of_decide_eq_true (by first | (with_reducible assumption) | assumption)
                    have q748 : x6_1 < (l0.length : Int) := of_decide_eq_true (by first | (with_reducible assumption) | assumption)
                    obtain ⟨ad748, e748, hx748_0, hx748_1, hx748_2⟩ := at_T97 HR0.out x6_1 p748 q748
                    obtain rfl : ad738 = ad748 := (by injection e748)
                    replace hx748_0 := (HB.out.cell (World.block_lt_of_cell? w _ hx748_0)).trans hx748_0
                    replace hx748_1 := (HB.out.cell (World.block_lt_of_cell? w _ hx748_1)).trans hx748_1
                    replace hx748_2 := (HB.out.cell (World.block_lt_of_cell? w _ hx748_2)).trans hx748_2
                    replace p748 := eq_true p748
                    replace q748 := eq_true q748
                    try go_wp2
                    go_roundg k1
                    case measure => have := HK1.out; omega
                    case rel => exact ⟨(wrap64 (x5_1 + ((rd_T97 l0 x6_1).f1))), (wrap64 (x6_1 + 1)), (by first | rfl | (simp; done) | (simp [*]; done)), (by first | rfl | (simp; done) | (simp [*]; done)), H', ⟨by have := HK1.out; omega⟩, ⟨by repeat (first | (with_reducible first | exact HB.out | apply below_alloc | apply pw_below_drewN | apply below_drew1) | exact HB.out)⟩⟩
              · replace c9 := Bool.eq_false_iff.mpr c9
                subst c9
                have H1 : (some (0, 0, false)) = some (r1, r2, r3) := by rw [if_neg (show ¬ (false = true) by decide)] at H; exact H
                clear H
                have H := H1
                clear H1
                simp only [Option.some.injEq, Prod.mk.injEq] at H
                obtain ⟨rfl, rfl, rfl⟩ := H
                try go_wp2
                have n0_ := Aside0.mk (below_drew1 HB.out)
                clear HB
                have HB := n0_
                clear n0_
                have p738 : 0 ≤ (x6_1 : Int) := of_decide_eq_true (by first | (with_reducible assumption) | assumption)
                have q738 : x6_1 < (l0.length : Int) := of_decide_eq_true (by first | (with_reducible assumption) | assumption)
                obtain ⟨ad738, e738, hx738_0, hx738_1, hx738_2⟩ := at_T97 HR0.out x6_1 p738 q738
                have hw738_2 := hx738_2
                have hw738_1 := hx738_1
                have hw738_0 := hx738_0
                cases e738
                replace hx738_0 := (HB.out.cell (World.block_lt_of_cell? w _ hx738_0)).trans hx738_0
                replace hx738_1 := (HB.out.cell (World.block_lt_of_cell? w _ hx738_1)).trans hx738_1
                replace hx738_2 := (HB.out.cell (World.block_lt_of_cell? w _ hx738_2)).trans hx738_2
                replace p738 := eq_true p738
                replace q738 := eq_true q738
                have p740 : 0 ≤ (x6_1 : Int) := of_decide_eq_true (by first | (with_reducible assumption) | assumption)
                have q740 : x6_1 < (l0.length : Int) := of_decide_eq_true (by first | (with_reducible assumption) | assumption)
                obtain ⟨ad740, e740, hx740_0, hx740_1, hx740_2⟩ := at_T97 HR0.out x6_1 p740 q740
                have hw740_2 := hx740_2
                have hw740_1 := hx740_1
                have hw740_0 := hx740_0
                obtain rfl : ad738 = ad740 := (by injection e740)
                replace hx740_0 := (HB.out.cell (World.block_lt_of_cell? w _ hx740_0)).trans hx740_0
                replace hx740_1 := (HB.out.cell (World.block_lt_of_cell? w _ hx740_1)).trans hx740_1
                replace hx740_2 := (HB.out.cell (World.block_lt_of_cell? w _ hx740_2)).trans hx740_2
                replace p740 := eq_true p740
                replace q740 := eq_true q740
                have hq0_ : wr.cell? (ad738.add ((x6_1).toNat * 3)) = some (.int .i64 ((rd_T97 l0 x6_1).f0)) := ((HB.out.cell (World.block_lt_of_cell? w _ hw738_0)).trans hw738_0)
                have hq1_ : wr.cell? ⟨(ad738.add ((x6_1).toNat * 3)).block, (ad738.add ((x6_1).toNat * 3)).off + 1, none⟩ = some (.int .i64 ((rd_T97 l0 x6_1).f1)) := ((HB.out.cell (World.block_lt_of_cell? w _ hw738_1)).trans hw738_1)
                have hq2_ : wr.cell? ⟨(ad738.add ((x6_1).toNat * 3)).block, (ad738.add ((x6_1).toNat * 3)).off + 2, none⟩ = some (.bool ((rd_T97 l0 x6_1).f2)) := ((HB.out.cell (World.block_lt_of_cell? w _ hw738_2)).trans hw738_2)
                have hq3_ : wr.cell? (ad738.add ((x6_1).toNat * 3)) = some (.int .i64 ((rd_T97 l0 x6_1).f0)) := ((HB.out.cell (World.block_lt_of_cell? w _ hw740_0)).trans hw740_0)
                have hq4_ : wr.cell? ⟨(ad738.add ((x6_1).toNat * 3)).block, (ad738.add ((x6_1).toNat * 3)).off + 1, none⟩ = some (.int .i64 ((rd_T97 l0 x6_1).f1)) := ((HB.out.cell (World.block_lt_of_cell? w _ hw740_1)).trans hw740_1)
                have hq5_ : wr.cell? ⟨(ad738.add ((x6_1).toNat * 3)).block, (ad738.add ((x6_1).toNat * 3)).off + 2, none⟩ = some (.bool ((rd_T97 l0 x6_1).f2)) := ((HB.out.cell (World.block_lt_of_cell? w _ hw740_2)).trans hw740_2)
                go_quiet ((first | (go_at_call 64; apply Calls.quiet_of; ((with_reducible refine (spec_l1In.calls ((rd_T97 l0 x6_1).f1) 1 96 true _ A6.out).mono ?_); exact fun _ _ h_ => ⟨h_.1, h_.2.out⟩)) | (go_at_call 64; apply Calls.quiet_of; ((with_reducible refine (spec_l1In.calls ((rd_T97 l0 x6_1).f0) 0 3000 false _ A8.out).mono ?_); exact fun _ _ h_ => ⟨h_.1, h_.2.out⟩))))
                have nHB_ := Aside0.mk (pw_below_drewN (W := wr) ⟨HB.out.os, HB.out.tape, HB.out.output, HB.out.size, HB.out.block⟩ nq)
                have nhx738_0_ : (wr.drewN nq).cell? _ = _ := hx738_0
                have nhx738_1_ : (wr.drewN nq).cell? _ = _ := hx738_1
                have nhx738_2_ : (wr.drewN nq).cell? _ = _ := hx738_2
                have nhx740_0_ : (wr.drewN nq).cell? _ = _ := hx740_0
                have nhx740_1_ : (wr.drewN nq).cell? _ = _ := hx740_1
                have nhx740_2_ : (wr.drewN nq).cell? _ = _ := hx740_2
                clear HB hx738_0 hx738_1 hx738_2 hx740_0 hx740_1 hx740_2 hq0_ hq1_ hq2_ hq3_ hq4_ hq5_
                have HB := nHB_
                have hx738_0 := nhx738_0_
                have hx738_1 := nhx738_1_
                have hx738_2 := nhx738_2_
                have hx740_0 := nhx740_0_
                have hx740_1 := nhx740_1_
                have hx740_2 := nhx740_2_
                clear nHB_ nhx738_0_ nhx738_1_ nhx738_2_ nhx740_0_ nhx740_1_ nhx740_2_
                generalize wr.drewN nq = w22 at HB hx738_0 hx738_1 hx738_2 hx740_0 hx740_1 hx740_2 ⊢
                try go_wp2
                go_ret3
                exact ⟨by first | rfl | (simp [errW_none, errW_some] <;> rfl) | (simp [*, errW_none, errW_some] <;> rfl), by repeat (first | (with_reducible first | exact HB.out | apply below_alloc | apply pw_below_drewN | apply below_drew1) | exact HB.out)⟩
            · replace c7 := Bool.eq_false_iff.mpr c7
              subst c7
              have H1 : (some (0, 0, false)) = some (r1, r2, r3) := by rw [if_neg (show ¬ (false = true) by decide)] at H; exact H
              clear H
              have H := H1
              clear H1
              simp only [Option.some.injEq, Prod.mk.injEq] at H
              obtain ⟨rfl, rfl, rfl⟩ := H
              try go_wp2
              have n0_ := Aside0.mk (below_drew1 HB.out)
              clear HB
              have HB := n0_
              clear n0_
              have p738 : 0 ≤ (x6_1 : Int) := of_decide_eq_true (by first | (with_reducible assumption) | assumption)
              have q738 : x6_1 < (l0.length : Int) := of_decide_eq_true (by first | (with_reducible assumption) | assumption)
              obtain ⟨ad738, e738, hx738_0, hx738_1, hx738_2⟩ := at_T97 HR0.out x6_1 p738 q738
              have hw738_2 := hx738_2
              have hw738_1 := hx738_1
              have hw738_0 := hx738_0
              cases e738
              replace hx738_0 := (HB.out.cell (World.block_lt_of_cell? w _ hx738_0)).trans hx738_0
              replace hx738_1 := (HB.out.cell (World.block_lt_of_cell? w _ hx738_1)).trans hx738_1
              replace hx738_2 := (HB.out.cell (World.block_lt_of_cell? w _ hx738_2)).trans hx738_2
              replace p738 := eq_true p738
              replace q738 := eq_true q738
              have hq0_ : wr.cell? (ad738.add ((x6_1).toNat * 3)) = some (.int .i64 ((rd_T97 l0 x6_1).f0)) := ((HB.out.cell (World.block_lt_of_cell? w _ hw738_0)).trans hw738_0)
              have hq1_ : wr.cell? ⟨(ad738.add ((x6_1).toNat * 3)).block, (ad738.add ((x6_1).toNat * 3)).off + 1, none⟩ = some (.int .i64 ((rd_T97 l0 x6_1).f1)) := ((HB.out.cell (World.block_lt_of_cell? w _ hw738_1)).trans hw738_1)
              have hq2_ : wr.cell? ⟨(ad738.add ((x6_1).toNat * 3)).block, (ad738.add ((x6_1).toNat * 3)).off + 2, none⟩ = some (.bool ((rd_T97 l0 x6_1).f2)) := ((HB.out.cell (World.block_lt_of_cell? w _ hw738_2)).trans hw738_2)
              go_quiet ((first | (go_at_call 64; apply Calls.quiet_of; ((with_reducible refine (spec_l1In.calls ((rd_T97 l0 x6_1).f1) 1 96 false _ A6.out).mono ?_); exact fun _ _ h_ => ⟨h_.1, h_.2.out⟩))))
              have nHB_ := Aside0.mk (pw_below_drewN (W := wr) ⟨HB.out.os, HB.out.tape, HB.out.output, HB.out.size, HB.out.block⟩ nq)
              have nhx738_0_ : (wr.drewN nq).cell? _ = _ := hx738_0
              have nhx738_1_ : (wr.drewN nq).cell? _ = _ := hx738_1
              have nhx738_2_ : (wr.drewN nq).cell? _ = _ := hx738_2
              clear HB hx738_0 hx738_1 hx738_2 hq0_ hq1_ hq2_
              have HB := nHB_
              have hx738_0 := nhx738_0_
              have hx738_1 := nhx738_1_
              have hx738_2 := nhx738_2_
              clear nHB_ nhx738_0_ nhx738_1_ nhx738_2_
              generalize wr.drewN nq = w23 at HB hx738_0 hx738_1 hx738_2 ⊢
              try go_wp2
              go_ret3
              exact ⟨by first | rfl | (simp [errW_none, errW_some] <;> rfl) | (simp [*, errW_none, errW_some] <;> rfl), by repeat (first | (with_reducible first | exact HB.out | apply below_alloc | apply pw_below_drewN | apply below_drew1) | exact HB.out)⟩
          · rw [if_neg c5] at H
            exact absurd H (by simp)
        · rw [if_neg c4] at H
          have c4b0 : decide (x6_1 < (l0.length : Int)) = false := decide_eq_false c4
          clear c4
          by_cases c24 : 0 < (l0.length : Int)
          · rw [if_pos c24] at H
            have c24b0 : decide (0 < (l0.length : Int)) = true := decide_eq_true c24
            have c24b1 : decide (0 < l0.length) = true := decide_eq_true (by omega)
            clear c24
            simp only [Option.some.injEq, Prod.mk.injEq] at H
            obtain ⟨rfl, rfl, rfl⟩ := H
            have p737 : 0 ≤ (0 : Int) := (by omega)
            have q737 : 0 < (l0.length : Int) := of_decide_eq_true (by first | (with_reducible assumption) | assumption)
            obtain ⟨ad737, e737, hx737_0, hx737_1, hx737_2⟩ := at_T97 HR0.out 0 p737 q737
            cases e737
            have qi737 : (0 < l0.length) = True := eq_true (by omega)
            (try rw [show ((0 : Int)).toNat = 0 from rfl] at hx737_0)
            (try rw [show 0 * 3 = 0 from rfl] at hx737_0)
            (try rw [Addr.add_zero'] at hx737_0)
            (try rw [show ((0 : Int)).toNat = 0 from rfl] at hx737_1)
            (try rw [show 0 * 3 = 0 from rfl] at hx737_1)
            (try rw [Addr.add_zero'] at hx737_1)
            (try rw [show ((0 : Int)).toNat = 0 from rfl] at hx737_2)
            (try rw [show 0 * 3 = 0 from rfl] at hx737_2)
            (try rw [Addr.add_zero'] at hx737_2)
            replace hx737_0 := (HB.out.cell (World.block_lt_of_cell? w _ hx737_0)).trans hx737_0
            replace hx737_1 := (HB.out.cell (World.block_lt_of_cell? w _ hx737_1)).trans hx737_1
            replace hx737_2 := (HB.out.cell (World.block_lt_of_cell? w _ hx737_2)).trans hx737_2
            replace p737 := eq_true p737
            replace q737 := eq_true q737
            go_wp2
            go_ret3
            exact ⟨by first | rfl | (simp [errW_none, errW_some] <;> rfl) | (simp [*, errW_none, errW_some] <;> rfl), by repeat (first | (with_reducible first | exact HB.out | apply below_alloc | apply pw_below_drewN | apply below_drew1) | exact HB.out)⟩
          · rw [if_neg c24] at H
            exact absurd H (by simp)
  · replace c3 := Bool.eq_false_iff.mpr c3
    subst c3
    have H1 : (some (0, 0, false)) = some (r1, r2, r3) := by rw [if_neg (show ¬ (false = true) by decide)] at H; exact H
    clear H
    have H := H1
    clear H1
    simp only [Option.some.injEq, Prod.mk.injEq] at H
    obtain ⟨rfl, rfl, rfl⟩ := H
    go_enter Try.func57, Try.ntmps57
    go_wp2_with (first | ((with_reducible refine gate_callee (f := 64) rfl ?_); refine goesL_ (some 9) rfl rfl Try.func64 (by kernel_rfl) rfl #[.int .i64 (l0.length : Int), .int .i64 1, .int .i64 200] rfl (by (try simp only [List.map_toArray, List.map_cons, List.map_nil]); first | done | rfl | (simp only [List.length_drop, List.length_take]; rfl)) ?_; (with_reducible refine (spec_l1In.calls (l0.length : Int) 1 200 false _ A2.out).mono ?_); rintro e w' ⟨rfl, ⟨nd, rfl⟩⟩; refine ⟨_, rfl, ?_⟩))
    go_ret3
    exact ⟨by first | rfl | (simp [errW_none, errW_some] <;> rfl) | (simp [*, errW_none, errW_some] <;> rfl), by repeat (first | (with_reducible first | exact HB.out | apply below_alloc | apply pw_below_drewN | apply below_drew1) | exact HB.out)⟩

end Go.Proofs.Ytinbdgngpkbgcaa.F
