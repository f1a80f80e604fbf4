-- Written for this claim by the kit's print.py out of the translation, called by wip/tools/fprint.py. Lean checks it.
import Derived.Test.YtinbdgngpkbgcaaF0
import Derived.Test.YtinbdgngpkbgcaaF7
namespace Go.Proofs.Ytinbdgngpkbgcaa.F
open Go.RowKit Go.Proofs.YtinbdgngpkbgcaaW.PrintWords Go.Proofs.YtinbdgngpkbgcaaW.PrintLast Go.Proofs.YtinbdgngpkbgcaaW.PrintMore
attribute [local go_sem] max2_int min2_int max_two min_two max_three min_three max_four min_four   -- for this text's walks alone
set_option linter.unusedVariables false
set_option linter.unusedSimpArgs false

/-! ### impl_JoinPieces: function 59 -/
def impl_JoinPieces.l0 : Nat → List (S97) → Int → List (S97) → Int → Int → Option (Int × Int × Bool)
  | 0, _, _, _, _, _ => none
  | k + 1, x0, x5, x12, x13, x14 => if x14 < x13 then (if 0 ≤ x14 then (if x14 < (x12.length : Int) then ((impl_InRange.f ((rd_T97 x12 x14).f1) 1 96).bind fun t764 => (if t764 = true then ((impl_InRange.f ((rd_T97 x12 x14).f0) 0 3000).bind fun t765 => (if t765 = true then (if x14 > 0 then (if 0 ≤ (wrap64 (x14 - 1)) then (if (wrap64 (x14 - 1)) < (x0.length : Int) then (if ((rd_T97 x12 x14).f0) = (wrap64 (((rd_T97 x0 (wrap64 (x14 - 1))).f0) + ((rd_T97 x0 (wrap64 (x14 - 1))).f1))) then (if (((rd_T97 x12 x14).f2) != (decide (x14 < (wrap64 ((x0.length : Int) - 1))))) = true then (some (0, 0, false)) else (impl_JoinPieces.l0 k x0 (wrap64 (x5 + ((rd_T97 x12 x14).f1))) x12 x13 (wrap64 (x14 + 1)))) else (some (0, 0, false))) else (none)) else (none)) else (if (((rd_T97 x12 x14).f2) != (decide (x14 < (wrap64 ((x0.length : Int) - 1))))) = true then (some (0, 0, false)) else (impl_JoinPieces.l0 k x0 (wrap64 (x5 + ((rd_T97 x12 x14).f1))) x12 x13 (wrap64 (x14 + 1))))) else (some (0, 0, false)))) else (some (0, 0, false)))) else (none)) else (none)) else (if 0 < (x0.length : Int) then (some ((rd_T97 x0 0).f0, x5, true)) else (none))
def impl_JoinPieces.f (k : Nat) (l0 : List (S97)) : Option (Int × Int × Bool) := (impl_InRange.f (l0.length : Int) 1 200).bind fun t760 => (if t760 = true then (impl_JoinPieces.l0 k l0 0 l0 (l0.length : Int) 0) else (some (0, 0, false)))
theorem impl_JoinPieces.mono_l : ∀ k, (∀ y0 y1 y2 y3 y4, LeO (impl_JoinPieces.l0 k y0 y1 y2 y3 y4) (impl_JoinPieces.l0 (k + 1) y0 y1 y2 y3 y4))
  | 0 => fun _ _ _ _ _ r h => by simp [impl_JoinPieces.l0] at h
  | k + 1 => by
    have ih0 := impl_JoinPieces.mono_l k
    · intro y0 y1 y2 y3 y4
      unfold impl_JoinPieces.l0
      repeat' first
      | (with_reducible exact ih0 _ _ _ _ _)
      | (with_reducible exact LeO.refl _)
      | (with_reducible exact LeO.none _)
      | (with_reducible refine LeO.ite ?_ ?_)
      | (with_reducible refine LeO.bind ?_ (fun _ => ?_))
      | exact ih0 _ _ _ _ _
      | exact LeO.none _
      | refine LeO.ite ?_ ?_
      | refine LeO.bind ?_ (fun _ => ?_)
theorem impl_JoinPieces.mono : ∀ a0 k, LeO (impl_JoinPieces.f k a0) (impl_JoinPieces.f (k + 1) a0) := by
  intro a0 k
  have ih0 := impl_JoinPieces.mono_l k
  unfold impl_JoinPieces.f
  repeat' first
      | (with_reducible exact ih0 _ _ _ _ _)
      | (with_reducible exact LeO.refl _)
      | (with_reducible exact LeO.none _)
      | (with_reducible refine LeO.ite ?_ ?_)
      | (with_reducible refine LeO.bind ?_ (fun _ => ?_))
      | exact ih0 _ _ _ _ _
      | exact LeO.none _
      | refine LeO.ite ?_ ?_
      | refine LeO.bind ?_ (fun _ => ?_)
def impl_JoinPieces.T7 : Bool × List (List Nat × List Nat) := (true, [([], []), ([0], [0]), ([1], [1]), ([2], [2]), ([3, 2], [3]), ([4], [4]), ([5, 4], [4, 5]), ([6, 4, 4], [4, 6]), ([7, 4], [4, 7]), ([4, 8], [4, 8]), ([9, 7], [9]), ([10], [10]), ([11, 10], [10, 11]), ([12, 10, 10], [10, 12]), ([13], [13]), ([14, 13], [13, 14]), ([13], [13]), ([13], [13]), ([17, 13], [13, 17]), ([16, 18, 13], [13, 16, 18]), ([19, 13], [13, 19]), ([20, 13], [13, 20]), ([13], [13]), ([13], [13]), ([23, 13], [13, 23]), ([22, 24, 13], [13, 22, 24]), ([25, 13], [13, 25]), ([26, 13], [13, 26]), ([21, 27, 13], [13, 21, 27]), ([15, 28, 13], [13, 15, 28]), ([13, 29, 10], [10, 13, 29]), ([10, 30], [10, 30]), ([31, 13], [31]), ([32], [32]), ([33, 32], [32, 33]), ([32], [32]), ([32], [32]), ([36, 32], [32, 36]), ([37, 32], [32, 37]), ([35, 38, 32], [32, 35, 38]), ([34, 39, 32], [32, 34, 39]), ([32, 40], [32, 40])])
def impl_JoinPieces.B7 : List Nat := [0, 1, 3, 7, 15, 31, 63, 127, 255, 511, 1023, 2047, 4095, 8191, 16383, 32767, 16383, 16383, 147455, 475135, 999423, 2047999, 16383, 16383, 8404991, 29376511, 62930943, 130039807, 268386303, 536870911, 1073741823, 2147483647, 4294967295, 8589934591, 17179869183, 8589934591, 8589934591, 77309411327, 214748364799, 523986010111, 1099511627775, 2199023255551]
theorem impl_JoinPieces.tab7 : rtab .any (opsOf Try.f59 7) = impl_JoinPieces.T7 := by kernel_rfl
theorem impl_JoinPieces.bits7 : waitsOk impl_JoinPieces.T7.2 impl_JoinPieces.B7 = true := by kernel_rfl
set_option maxHeartbeats 8000000 in
set_option maxRecDepth 100000 in
theorem impl_JoinPieces.calls (k : Nat) (A0 : Option Addr) (c0 : Nat) (l0 : List (S97)) (r1 : Int) (r2 : Int) (r3 : Bool) (w : World) (hr0 : Kd.C k97 w A0 l0.length l0) (hc0 : l0.length ≤ c0) (h : impl_JoinPieces.f k l0 = some (r1, r2, r3)) :
    Calls Try.prog 59 #[.slice A0 l0.length c0] w fun e w' => e = .returned (.tuple #[.int .i64 r1, .int .i64 r2, .bool r3]) ∧ Below w.heap.size w w' := by
  have hu97 := Try.underlying97
  have HR0 := Aside0.mk hr0
  have HC0 := Aside0.mk hc0
  clear hr0 hc0
  have HB := Aside0.mk (Below.refl w.heap.size w)
  have H : ((impl_InRange.f (l0.length : Int) 1 200).bind fun t760 => (if t760 = true then (impl_JoinPieces.l0 k l0 0 l0 (l0.length : Int) 0) else (some (0, 0, false)))) = some (r1, r2, r3) := h
  clear h
  replace H := Option.bind_eq_some_iff.mp H
  obtain ⟨t760, A20, H⟩ := H
  replace H : (if t760 = true then (impl_JoinPieces.l0 k l0 0 l0 (l0.length : Int) 0) else (some (0, 0, false))) = some (r1, r2, r3) := H
  have A2 := Aside0.mk A20
  clear A20
  by_cases c3 : t760 = true
  · subst c3
    have H1 : (impl_JoinPieces.l0 k l0 0 l0 (l0.length : Int) 0) = some (r1, r2, r3) := by rw [if_pos rfl] at H; exact H
    clear H
    have H := H1
    clear H1
    have H' := Aside0.mk H
    clear H
    go_enter Try.func59, Try.ntmps59
    go_wp2_with (first | ((with_reducible refine gate_callee (f := 66) rfl ?_); refine goesL_ (some 10) rfl rfl Try.func66 (by kernel_rfl) rfl #[.int .i64 (l0.length : Int), .int .i64 1, .int .i64 200] rfl (by (try simp only [List.map_toArray, List.map_cons, List.map_nil]); first | done | rfl | (simp only [List.length_drop, List.length_take]; rfl)) ?_; (with_reducible refine (impl_InRange.calls (l0.length : Int) 1 200 true _ A2.out).mono ?_); rintro e w' ⟨rfl, ⟨nd, rfl⟩⟩; refine ⟨_, rfl, ?_⟩))
    go_loopg [5, 14] k (fun kq v5 v14 w' => ∃ (x5_1 : Int) (x14_1 : Int), v5 = .int .i64 x5_1 ∧ v14 = .int .i64 x14_1 ∧ Aside0 (impl_JoinPieces.l0 kq l0 x5_1 l0 (l0.length : Int) x14_1 = some (r1, r2, r3)) ∧ Aside0 (kq ≤ k) ∧ Aside0 (Below w.heap.size w w'))
    case atStart => exact ⟨(0), (0), (by first | rfl | (simp; done) | (simp [*]; done)), (by first | rfl | (simp; done) | (simp [*]; done)), H', ⟨Nat.le_refl _⟩, ⟨by repeat (first | (with_reducible first | exact HB.out | apply below_alloc | apply pw_below_drewN | apply below_drew1) | exact HB.out)⟩⟩
    case round =>
      clear H'
      try clear p2
      try clear c3
      obtain ⟨x5_1, x14_1, rfl, rfl, HA, HK1, HB⟩ := hrel
      cases gk with
      | zero => exact absurd HA.out (by simp [impl_JoinPieces.l0])
      | succ k1 =>
        have H := HA.out
        clear HA
        simp only [impl_JoinPieces.l0] at H
        by_cases c4 : x14_1 < (l0.length : Int)
        · rw [if_pos c4] at H
          have c4b0 : decide (x14_1 < (l0.length : Int)) = true := decide_eq_true c4
          clear c4
          by_cases c5 : 0 ≤ x14_1
          · rw [if_pos c5] at H
            have c5b0 : decide (0 ≤ x14_1) = true := decide_eq_true c5
            clear c5
            by_cases c6 : x14_1 < (l0.length : Int)
            · rw [if_pos c6] at H
              have c6b0 : decide (x14_1 < (l0.length : Int)) = true := decide_eq_true c6
              clear c6
              replace H := Option.bind_eq_some_iff.mp H
              obtain ⟨t764, A70, H⟩ := H
              replace H : (if t764 = true then ((impl_InRange.f ((rd_T97 l0 x14_1).f0) 0 3000).bind fun t765 => (if t765 = true then (if x14_1 > 0 then (if 0 ≤ (wrap64 (x14_1 - 1)) then (if (wrap64 (x14_1 - 1)) < (l0.length : Int) then (if ((rd_T97 l0 x14_1).f0) = (wrap64 (((rd_T97 l0 (wrap64 (x14_1 - 1))).f0) + ((rd_T97 l0 (wrap64 (x14_1 - 1))).f1))) then (if (((rd_T97 l0 x14_1).f2) != (decide (x14_1 < (wrap64 ((l0.length : Int) - 1))))) = true then (some (0, 0, false)) else (impl_JoinPieces.l0 k1 l0 (wrap64 (x5_1 + ((rd_T97 l0 x14_1).f1))) l0 (l0.length : Int) (wrap64 (x14_1 + 1)))) else (some (0, 0, false))) else (none)) else (none)) else (if (((rd_T97 l0 x14_1).f2) != (decide (x14_1 < (wrap64 ((l0.length : Int) - 1))))) = true then (some (0, 0, false)) else (impl_JoinPieces.l0 k1 l0 (wrap64 (x5_1 + ((rd_T97 l0 x14_1).f1))) l0 (l0.length : Int) (wrap64 (x14_1 + 1))))) else (some (0, 0, false)))) else (some (0, 0, false))) = some (r1, r2, r3) := H
              have A7 := Aside0.mk A70
              clear A70
              by_cases c8 : t764 = true
              · subst c8
                have H1 : ((impl_InRange.f ((rd_T97 l0 x14_1).f0) 0 3000).bind fun t765 => (if t765 = true then (if x14_1 > 0 then (if 0 ≤ (wrap64 (x14_1 - 1)) then (if (wrap64 (x14_1 - 1)) < (l0.length : Int) then (if ((rd_T97 l0 x14_1).f0) = (wrap64 (((rd_T97 l0 (wrap64 (x14_1 - 1))).f0) + ((rd_T97 l0 (wrap64 (x14_1 - 1))).f1))) then (if (((rd_T97 l0 x14_1).f2) != (decide (x14_1 < (wrap64 ((l0.length : Int) - 1))))) = true then (some (0, 0, false)) else (impl_JoinPieces.l0 k1 l0 (wrap64 (x5_1 + ((rd_T97 l0 x14_1).f1))) l0 (l0.length : Int) (wrap64 (x14_1 + 1)))) else (some (0, 0, false))) else (none)) else (none)) else (if (((rd_T97 l0 x14_1).f2) != (decide (x14_1 < (wrap64 ((l0.length : Int) - 1))))) = true then (some (0, 0, false)) else (impl_JoinPieces.l0 k1 l0 (wrap64 (x5_1 + ((rd_T97 l0 x14_1).f1))) l0 (l0.length : Int) (wrap64 (x14_1 + 1))))) else (some (0, 0, false)))) = some (r1, r2, r3) := by rw [if_pos rfl] at H; exact H
                clear H
                have H := H1
                clear H1
                replace H := Option.bind_eq_some_iff.mp H
                obtain ⟨t765, A90, H⟩ := H
                replace H : (if t765 = true then (if x14_1 > 0 then (if 0 ≤ (wrap64 (x14_1 - 1)) then (if (wrap64 (x14_1 - 1)) < (l0.length : Int) then (if ((rd_T97 l0 x14_1).f0) = (wrap64 (((rd_T97 l0 (wrap64 (x14_1 - 1))).f0) + ((rd_T97 l0 (wrap64 (x14_1 - 1))).f1))) then (if (((rd_T97 l0 x14_1).f2) != (decide (x14_1 < (wrap64 ((l0.length : Int) - 1))))) = true then (some (0, 0, false)) else (impl_JoinPieces.l0 k1 l0 (wrap64 (x5_1 + ((rd_T97 l0 x14_1).f1))) l0 (l0.length : Int) (wrap64 (x14_1 + 1)))) else (some (0, 0, false))) else (none)) else (none)) else (if (((rd_T97 l0 x14_1).f2) != (decide (x14_1 < (wrap64 ((l0.length : Int) - 1))))) = true then (some (0, 0, false)) else (impl_JoinPieces.l0 k1 l0 (wrap64 (x5_1 + ((rd_T97 l0 x14_1).f1))) l0 (l0.length : Int) (wrap64 (x14_1 + 1))))) else (some (0, 0, false))) = some (r1, r2, r3) := H
                have A9 := Aside0.mk A90
                clear A90
                by_cases c10 : t765 = true
                · subst c10
                  have H1 : (if x14_1 > 0 then (if 0 ≤ (wrap64 (x14_1 - 1)) then (if (wrap64 (x14_1 - 1)) < (l0.length : Int) then (if ((rd_T97 l0 x14_1).f0) = (wrap64 (((rd_T97 l0 (wrap64 (x14_1 - 1))).f0) + ((rd_T97 l0 (wrap64 (x14_1 - 1))).f1))) then (if (((rd_T97 l0 x14_1).f2) != (decide (x14_1 < (wrap64 ((l0.length : Int) - 1))))) = true then (some (0, 0, false)) else (impl_JoinPieces.l0 k1 l0 (wrap64 (x5_1 + ((rd_T97 l0 x14_1).f1))) l0 (l0.length : Int) (wrap64 (x14_1 + 1)))) else (some (0, 0, false))) else (none)) else (none)) else (if (((rd_T97 l0 x14_1).f2) != (decide (x14_1 < (wrap64 ((l0.length : Int) - 1))))) = true then (some (0, 0, false)) else (impl_JoinPieces.l0 k1 l0 (wrap64 (x5_1 + ((rd_T97 l0 x14_1).f1))) l0 (l0.length : Int) (wrap64 (x14_1 + 1))))) = some (r1, r2, r3) := by rw [if_pos rfl] at H; exact H
                  clear H
                  have H := H1
                  clear H1
                  by_cases c11 : x14_1 > 0
                  · rw [if_pos c11] at H
                    have c11b0 : decide (0 < x14_1) = true := decide_eq_true c11
                    clear c11
                    obtain ⟨ji12, hji12⟩ : ∃ j_ : Int, (wrap64 (x14_1 - 1)) = j_ := ⟨_, rfl⟩
                    replace H : (if 0 ≤ (ji12) then (if (ji12) < (l0.length : Int) then (if ((rd_T97 l0 x14_1).f0) = (wrap64 (((rd_T97 l0 (ji12)).f0) + ((rd_T97 l0 (ji12)).f1))) then (if (((rd_T97 l0 x14_1).f2) != (decide (x14_1 < (wrap64 ((l0.length : Int) - 1))))) = true then (some (0, 0, false)) else (impl_JoinPieces.l0 k1 l0 (wrap64 (x5_1 + ((rd_T97 l0 x14_1).f1))) l0 (l0.length : Int) (wrap64 (x14_1 + 1)))) else (some (0, 0, false))) else (none)) else (none)) = some (r1, r2, r3) := by first | (rw [hji12] at H; exact H) | (simp only [hji12] at H ⊢; exact H)
                    (try rw [hji12] at A7)
                    (try rw [hji12] at A9)
                    have hji12w : (IntKind.i64.wrap (x14_1 - 1)) = ji12 := (i64_w _).trans hji12
                    by_cases c13 : 0 ≤ (ji12)
                    · rw [if_pos c13] at H
                      have c13b0 : decide (0 ≤ (ji12)) = true := decide_eq_true c13
                      clear c13
                      by_cases c14 : (ji12) < (l0.length : Int)
                      · rw [if_pos c14] at H
                        have c14b0 : decide ((ji12) < (l0.length : Int)) = true := decide_eq_true c14
                        clear c14
                        by_cases c15 : ((rd_T97 l0 x14_1).f0) = (wrap64 (((rd_T97 l0 (ji12)).f0) + ((rd_T97 l0 (ji12)).f1)))
                        · rw [if_pos c15] at H
                          have c15b0 : (((rd_T97 l0 x14_1).f0) == (wrap64 (((rd_T97 l0 (ji12)).f0) + ((rd_T97 l0 (ji12)).f1)))) = true := beq_iff_eq.mpr c15
                          have c15b1 : (((rd_T97 l0 x14_1).f0) != (wrap64 (((rd_T97 l0 (ji12)).f0) + ((rd_T97 l0 (ji12)).f1)))) = false := bne_eq_false_iff_eq.mpr c15
                          clear c15
                          by_cases c16 : (((rd_T97 l0 x14_1).f2) != (decide (x14_1 < (wrap64 ((l0.length : Int) - 1))))) = true
                          · rw [if_pos c16] at H
                            have c16b0 : (((rd_T97 l0 x14_1).f2) != (decide (x14_1 < (wrap64 ((l0.length : Int) - 1))))) = true := c16
                            (try (have c16b1 : decide (((rd_T97 l0 x14_1).f2) = (decide (x14_1 < (wrap64 ((l0.length : Int) - 1))))) = false := by simpa using c16))
                            (try (have c16b2 : (((rd_T97 l0 x14_1).f2) == (decide (x14_1 < (wrap64 ((l0.length : Int) - 1))))) = false := by simpa using c16))
                            (try (have c16b3 : ¬ (((rd_T97 l0 x14_1).f2) = (decide (x14_1 < (wrap64 ((l0.length : Int) - 1))))) := by simpa using c16))
                            clear c16
                            simp only [Option.some.injEq, Prod.mk.injEq] at H
                            obtain ⟨rfl, rfl, rfl⟩ := H
                            have p762 : 0 ≤ (x14_1 : Int) := of_decide_eq_true (by first | (with_reducible assumption) | assumption)
                            have q762 : x14_1 < (l0.length : Int) := of_decide_eq_true (by first | (with_reducible assumption) | assumption)
                            obtain ⟨ad762, e762, hx762_0, hx762_1, hx762_2⟩ := at_T97 HR0.out x14_1 p762 q762
                            cases e762
                            replace hx762_0 := (HB.out.cell (World.block_lt_of_cell? w _ hx762_0)).trans hx762_0
                            replace hx762_1 := (HB.out.cell (World.block_lt_of_cell? w _ hx762_1)).trans hx762_1
                            replace hx762_2 := (HB.out.cell (World.block_lt_of_cell? w _ hx762_2)).trans hx762_2
                            replace p762 := eq_true p762
                            replace q762 := eq_true q762
                            try go_wp2_with (first | ((with_reducible refine gate_dst (N := 7) rfl ?_); (try (refine gate_guard (by rfl) ?_; dsimp only)); refine box_event ?hg (N := 7) ?hd (cs := #[.int .i64 0, .int .i64 0, .bool false]) (t := 97) ?hr ?_; (case hd => rfl); (case hg => rfl); (case hr => first | (go_simp; done) | (go_simp; rfl)); intro gb763 hg w17 hbox hb; have n0_ := Aside0.mk (below_step (by repeat (first | (with_reducible first | exact HB.out | apply below_alloc | apply pw_below_drewN | apply below_drew1) | exact HB.out)) hb); have n1_ := Aside0.mk (hbox); have n2_ := Aside0.mk ((by rw [hg]; exact (below_size (by repeat (first | (with_reducible first | exact HB.out | apply below_alloc | apply pw_below_drewN | apply below_drew1) | exact HB.out))) : w.heap.size ≤ gb763)); have n3_ := Aside0.mk ((by rw [hg]; exact (below_size (by repeat (first | (with_reducible first | exact HB.out | apply below_alloc | apply pw_below_drewN | apply below_drew1) | exact HB.out))) : w.heap.size ≤ gb763)); clear HB; have HB := n0_; have BK763 := n1_; have GW763 := n2_; have GE763 := n3_; clear n0_ n1_ n2_ n3_; clear hb hbox hg; have hcz18_0 : w17.cell? ⟨gb763, 0, none⟩ = some (.int .i64 0) := (blk_cell BK763.out 0).trans rfl; have hcz18_1 : w17.cell? ⟨gb763, 1, none⟩ = some (.int .i64 0) := (blk_cell BK763.out 1).trans rfl; have hcz18_2 : w17.cell? ⟨gb763, 2, none⟩ = some (.bool false) := (blk_cell BK763.out 2).trans rfl; have hfz18_0 := blk_frozen BK763.out 0; have hfz18_1 := blk_frozen BK763.out 1; have hfz18_2 := blk_frozen BK763.out 2))
                            have n0_ : Aside0 ((((w17.setCell ⟨gb763, 0, none⟩ (.int .i64 ((rd_T97 l0 x14_1).f0))).setCell ⟨gb763, 1, none⟩ (.int .i64 ((rd_T97 l0 x14_1).f1))).setCell ⟨gb763, 2, none⟩ (.bool ((rd_T97 l0 x14_1).f2))).heap[gb763]? = some (.cells #[.int .i64 ((rd_T97 l0 x14_1).f0), .int .i64 ((rd_T97 l0 x14_1).f1), .bool ((rd_T97 l0 x14_1).f2)] 97 (0, 0))) := ⟨by (with_reducible repeat (first | refine blk_drewN ?_ _ | refine blk_drew ?_ | refine blk_alloc ?_ _)); refine blk_put (cs := #[.int .i64 ((rd_T97 l0 x14_1).f0), .int .i64 ((rd_T97 l0 x14_1).f1), .bool false]) ?_ 2 _ rfl; (with_reducible repeat (first | refine blk_drewN ?_ _ | refine blk_drew ?_ | refine blk_alloc ?_ _)); refine blk_put (cs := #[.int .i64 ((rd_T97 l0 x14_1).f0), .int .i64 0, .bool false]) ?_ 1 _ rfl; (with_reducible repeat (first | refine blk_drewN ?_ _ | refine blk_drew ?_ | refine blk_alloc ?_ _)); refine blk_put (cs := #[.int .i64 0, .int .i64 0, .bool false]) ?_ 0 _ rfl; (with_reducible repeat (first | refine blk_drewN ?_ _ | refine blk_drew ?_ | refine blk_alloc ?_ _)); exact BK763.out⟩
                            have n1_ : Aside0 (Below w.heap.size w (((w17.setCell ⟨gb763, 0, none⟩ (.int .i64 ((rd_T97 l0 x14_1).f0))).setCell ⟨gb763, 1, none⟩ (.int .i64 ((rd_T97 l0 x14_1).f1))).setCell ⟨gb763, 2, none⟩ (.bool ((rd_T97 l0 x14_1).f2)))) := ⟨by repeat (first | (with_reducible first | exact HB.out | apply below_alloc | apply pw_below_drewN | apply below_drew1 | refine below_set ?_ GE763.out) | exact HB.out)⟩
                            (try clear BK763)
                            (try clear HB)
                            generalize (((w17.setCell ⟨gb763, 0, none⟩ (.int .i64 ((rd_T97 l0 x14_1).f0))).setCell ⟨gb763, 1, none⟩ (.int .i64 ((rd_T97 l0 x14_1).f1))).setCell ⟨gb763, 2, none⟩ (.bool ((rd_T97 l0 x14_1).f2))) = w19 at n0_ n1_ ⊢
                            have BK763 := n0_
                            have HB := n1_
                            clear n0_ n1_
                            have n0_ := Aside0.mk (blk_drew BK763.out)
                            have n1_ := Aside0.mk (below_drew1 HB.out)
                            clear BK763
                            clear HB
                            have BK763 := n0_
                            have HB := n1_
                            clear n0_ n1_
                            have p766 : 0 ≤ ((ji12) : Int) := of_decide_eq_true (by first | (with_reducible assumption) | assumption)
                            have q766 : (ji12) < (l0.length : Int) := of_decide_eq_true (by first | (with_reducible assumption) | assumption)
                            obtain ⟨ad766, e766, hx766_0, hx766_1, hx766_2⟩ := at_T97 HR0.out (ji12) p766 q766
                            have hw766_2 := hx766_2
                            have hw766_1 := hx766_1
                            have hw766_0 := hx766_0
                            obtain rfl : ad762 = ad766 := (by injection e766)
                            replace hx766_0 := (HB.out.cell (World.block_lt_of_cell? w _ hx766_0)).trans hx766_0
                            replace hx766_1 := (HB.out.cell (World.block_lt_of_cell? w _ hx766_1)).trans hx766_1
                            replace hx766_2 := (HB.out.cell (World.block_lt_of_cell? w _ hx766_2)).trans hx766_2
                            replace p766 := eq_true p766
                            replace q766 := eq_true q766
                            have p767 : 0 ≤ ((ji12) : Int) := of_decide_eq_true (by first | (with_reducible assumption) | assumption)
                            have q767 : (ji12) < (l0.length : Int) := of_decide_eq_true (by first | (with_reducible assumption) | assumption)
                            obtain ⟨ad767, e767, hx767_0, hx767_1, hx767_2⟩ := at_T97 HR0.out (ji12) p767 q767
                            have hw767_2 := hx767_2
                            have hw767_1 := hx767_1
                            have hw767_0 := hx767_0
                            obtain rfl : ad762 = ad767 := (by injection e767)
                            replace hx767_0 := (HB.out.cell (World.block_lt_of_cell? w _ hx767_0)).trans hx767_0
                            replace hx767_1 := (HB.out.cell (World.block_lt_of_cell? w _ hx767_1)).trans hx767_1
                            replace hx767_2 := (HB.out.cell (World.block_lt_of_cell? w _ hx767_2)).trans hx767_2
                            replace p767 := eq_true p767
                            replace q767 := eq_true q767
                            have hq0_ : w19.cell? ⟨gb763, 0, none⟩ = some (.int .i64 ((rd_T97 l0 x14_1).f0)) := (blk_cell BK763.out 0).trans rfl
                            have hq1_ : w19.cell? ⟨gb763, 1, none⟩ = some (.int .i64 ((rd_T97 l0 x14_1).f1)) := (blk_cell BK763.out 1).trans rfl
                            have hq2_ : w19.cell? ⟨gb763, 2, none⟩ = some (.bool ((rd_T97 l0 x14_1).f2)) := (blk_cell BK763.out 2).trans rfl
                            have hq3_ : w19.cell? (ad762.add (((ji12)).toNat * 3)) = some (.int .i64 ((rd_T97 l0 (ji12)).f0)) := ((HB.out.cell (World.block_lt_of_cell? w _ hw766_0)).trans hw766_0)
                            have hq4_ : w19.cell? ⟨(ad762.add (((ji12)).toNat * 3)).block, (ad762.add (((ji12)).toNat * 3)).off + 1, none⟩ = some (.int .i64 ((rd_T97 l0 (ji12)).f1)) := ((HB.out.cell (World.block_lt_of_cell? w _ hw766_1)).trans hw766_1)
                            have hq5_ : w19.cell? ⟨(ad762.add (((ji12)).toNat * 3)).block, (ad762.add (((ji12)).toNat * 3)).off + 2, none⟩ = some (.bool ((rd_T97 l0 (ji12)).f2)) := ((HB.out.cell (World.block_lt_of_cell? w _ hw766_2)).trans hw766_2)
                            have hq6_ : w19.cell? (ad762.add (((ji12)).toNat * 3)) = some (.int .i64 ((rd_T97 l0 (ji12)).f0)) := ((HB.out.cell (World.block_lt_of_cell? w _ hw767_0)).trans hw767_0)
                            have hq7_ : w19.cell? ⟨(ad762.add (((ji12)).toNat * 3)).block, (ad762.add (((ji12)).toNat * 3)).off + 1, none⟩ = some (.int .i64 ((rd_T97 l0 (ji12)).f1)) := ((HB.out.cell (World.block_lt_of_cell? w _ hw767_1)).trans hw767_1)
                            have hq8_ : w19.cell? ⟨(ad762.add (((ji12)).toNat * 3)).block, (ad762.add (((ji12)).toNat * 3)).off + 2, none⟩ = some (.bool ((rd_T97 l0 (ji12)).f2)) := ((HB.out.cell (World.block_lt_of_cell? w _ hw767_2)).trans hw767_2)
                            go_quiet ((first | (go_at_call 66; apply Calls.quiet_of; ((with_reducible refine (impl_InRange.calls ((rd_T97 l0 x14_1).f1) 1 96 true _ A7.out).mono ?_); exact fun _ _ h_ => ⟨h_.1, h_.2.out⟩)) | (go_at_call 66; apply Calls.quiet_of; ((with_reducible refine (impl_InRange.calls ((rd_T97 l0 x14_1).f0) 0 3000 true _ A9.out).mono ?_); exact fun _ _ h_ => ⟨h_.1, h_.2.out⟩))))
                            have nBK763_ := Aside0.mk (blk_drewN (w := w19) BK763.out nq)
                            have nHB_ := Aside0.mk (pw_below_drewN (W := w19) ⟨HB.out.os, HB.out.tape, HB.out.output, HB.out.size, HB.out.block⟩ nq)
                            have nhx766_0_ : (w19.drewN nq).cell? _ = _ := hx766_0
                            have nhx766_1_ : (w19.drewN nq).cell? _ = _ := hx766_1
                            have nhx766_2_ : (w19.drewN nq).cell? _ = _ := hx766_2
                            have nhx767_0_ : (w19.drewN nq).cell? _ = _ := hx767_0
                            have nhx767_1_ : (w19.drewN nq).cell? _ = _ := hx767_1
                            have nhx767_2_ : (w19.drewN nq).cell? _ = _ := hx767_2
                            clear BK763 HB hx766_0 hx766_1 hx766_2 hx767_0 hx767_1 hx767_2 hq0_ hq1_ hq2_ hq3_ hq4_ hq5_ hq6_ hq7_ hq8_
                            have BK763 := nBK763_
                            have HB := nHB_
                            have hx766_0 := nhx766_0_
                            have hx766_1 := nhx766_1_
                            have hx766_2 := nhx766_2_
                            have hx767_0 := nhx767_0_
                            have hx767_1 := nhx767_1_
                            have hx767_2 := nhx767_2_
                            clear nBK763_ nHB_ nhx766_0_ nhx766_1_ nhx766_2_ nhx767_0_ nhx767_1_ nhx767_2_
                            generalize w19.drewN nq = w20 at BK763 HB hx766_0 hx766_1 hx766_2 hx767_0 hx767_1 hx767_2 ⊢
                            try go_wp2
                            go_ret3
                            exact ⟨by first | rfl | (simp [errW_none, errW_some] <;> rfl) | (simp only [← hji12]; first | rfl | (simp [errW_none, errW_some] <;> rfl)) | (simp [*, errW_none, errW_some] <;> rfl), by repeat (first | (with_reducible first | exact HB.out | apply below_alloc | apply pw_below_drewN | apply below_drew1 | refine below_set ?_ GE763.out) | exact HB.out)⟩
                          · rw [if_neg c16] at H
                            have c16b0 : (((rd_T97 l0 x14_1).f2) != (decide (x14_1 < (wrap64 ((l0.length : Int) - 1))))) = false := by simpa using c16
                            (try (have c16b1 : decide (((rd_T97 l0 x14_1).f2) = (decide (x14_1 < (wrap64 ((l0.length : Int) - 1))))) = true := by simpa using c16))
                            (try (have c16b2 : (((rd_T97 l0 x14_1).f2) == (decide (x14_1 < (wrap64 ((l0.length : Int) - 1))))) = true := by simpa using c16))
                            clear c16
                            have H' := Aside0.mk H
                            clear H
                            have p762 : 0 ≤ (x14_1 : Int) := of_decide_eq_true (by first | (with_reducible assumption) | assumption)
                            have q762 : x14_1 < (l0.length : Int) := of_decide_eq_true (by first | (with_reducible assumption) | assumption)
                            obtain ⟨ad762, e762, hx762_0, hx762_1, hx762_2⟩ := at_T97 HR0.out x14_1 p762 q762
                            cases e762
                            replace hx762_0 := (HB.out.cell (World.block_lt_of_cell? w _ hx762_0)).trans hx762_0
                            replace hx762_1 := (HB.out.cell (World.block_lt_of_cell? w _ hx762_1)).trans hx762_1
                            replace hx762_2 := (HB.out.cell (World.block_lt_of_cell? w _ hx762_2)).trans hx762_2
                            replace p762 := eq_true p762
                            replace q762 := eq_true q762
                            try go_wp2_with (first | ((with_reducible refine gate_dst (N := 7) rfl ?_); (try (refine gate_guard (by rfl) ?_; dsimp only)); refine box_event ?hg (N := 7) ?hd (cs := #[.int .i64 0, .int .i64 0, .bool false]) (t := 97) ?hr ?_; (case hd => rfl); (case hg => rfl); (case hr => first | (go_simp; done) | (go_simp; rfl)); intro gb763 hg w21 hbox hb; have n0_ := Aside0.mk (below_step (by repeat (first | (with_reducible first | exact HB.out | apply below_alloc | apply pw_below_drewN | apply below_drew1) | exact HB.out)) hb); have n1_ := Aside0.mk (hbox); have n2_ := Aside0.mk ((by rw [hg]; exact (below_size (by repeat (first | (with_reducible first | exact HB.out | apply below_alloc | apply pw_below_drewN | apply below_drew1) | exact HB.out))) : w.heap.size ≤ gb763)); have n3_ := Aside0.mk ((by rw [hg]; exact (below_size (by repeat (first | (with_reducible first | exact HB.out | apply below_alloc | apply pw_below_drewN | apply below_drew1) | exact HB.out))) : w.heap.size ≤ gb763)); clear HB; have HB := n0_; have BK763 := n1_; have GW763 := n2_; have GE763 := n3_; clear n0_ n1_ n2_ n3_; clear hb hbox hg; have hcz22_0 : w21.cell? ⟨gb763, 0, none⟩ = some (.int .i64 0) := (blk_cell BK763.out 0).trans rfl; have hcz22_1 : w21.cell? ⟨gb763, 1, none⟩ = some (.int .i64 0) := (blk_cell BK763.out 1).trans rfl; have hcz22_2 : w21.cell? ⟨gb763, 2, none⟩ = some (.bool false) := (blk_cell BK763.out 2).trans rfl; have hfz22_0 := blk_frozen BK763.out 0; have hfz22_1 := blk_frozen BK763.out 1; have hfz22_2 := blk_frozen BK763.out 2))
                            have n0_ : Aside0 ((((w21.setCell ⟨gb763, 0, none⟩ (.int .i64 ((rd_T97 l0 x14_1).f0))).setCell ⟨gb763, 1, none⟩ (.int .i64 ((rd_T97 l0 x14_1).f1))).setCell ⟨gb763, 2, none⟩ (.bool ((rd_T97 l0 x14_1).f2))).heap[gb763]? = some (.cells #[.int .i64 ((rd_T97 l0 x14_1).f0), .int .i64 ((rd_T97 l0 x14_1).f1), .bool ((rd_T97 l0 x14_1).f2)] 97 (0, 0))) := ⟨by (with_reducible repeat (first | refine blk_drewN ?_ _ | refine blk_drew ?_ | refine blk_alloc ?_ _)); refine blk_put (cs := #[.int .i64 ((rd_T97 l0 x14_1).f0), .int .i64 ((rd_T97 l0 x14_1).f1), .bool false]) ?_ 2 _ rfl; (with_reducible repeat (first | refine blk_drewN ?_ _ | refine blk_drew ?_ | refine blk_alloc ?_ _)); refine blk_put (cs := #[.int .i64 ((rd_T97 l0 x14_1).f0), .int .i64 0, .bool false]) ?_ 1 _ rfl; (with_reducible repeat (first | refine blk_drewN ?_ _ | refine blk_drew ?_ | refine blk_alloc ?_ _)); refine blk_put (cs := #[.int .i64 0, .int .i64 0, .bool false]) ?_ 0 _ rfl; (with_reducible repeat (first | refine blk_drewN ?_ _ | refine blk_drew ?_ | refine blk_alloc ?_ _)); exact BK763.out⟩
                            have n1_ : Aside0 (Below w.heap.size w (((w21.setCell ⟨gb763, 0, none⟩ (.int .i64 ((rd_T97 l0 x14_1).f0))).setCell ⟨gb763, 1, none⟩ (.int .i64 ((rd_T97 l0 x14_1).f1))).setCell ⟨gb763, 2, none⟩ (.bool ((rd_T97 l0 x14_1).f2)))) := ⟨by repeat (first | (with_reducible first | exact HB.out | apply below_alloc | apply pw_below_drewN | apply below_drew1 | refine below_set ?_ GE763.out) | exact HB.out)⟩
                            (try clear BK763)
                            (try clear HB)
                            generalize (((w21.setCell ⟨gb763, 0, none⟩ (.int .i64 ((rd_T97 l0 x14_1).f0))).setCell ⟨gb763, 1, none⟩ (.int .i64 ((rd_T97 l0 x14_1).f1))).setCell ⟨gb763, 2, none⟩ (.bool ((rd_T97 l0 x14_1).f2))) = w23 at n0_ n1_ ⊢
                            have BK763 := n0_
                            have HB := n1_
                            clear n0_ n1_
                            have n0_ := Aside0.mk (blk_drew BK763.out)
                            have n1_ := Aside0.mk (below_drew1 HB.out)
                            clear BK763
                            clear HB
                            have BK763 := n0_
                            have HB := n1_
                            clear n0_ n1_
                            have p766 : 0 ≤ ((ji12) : Int) := of_decide_eq_true (by first | (with_reducible assumption) | assumption)
                            have q766 : (ji12) < (l0.length : Int) := of_decide_eq_true (by first | (with_reducible assumption) | assumption)
                            obtain ⟨ad766, e766, hx766_0, hx766_1, hx766_2⟩ := at_T97 HR0.out (ji12) p766 q766
                            have hw766_2 := hx766_2
                            have hw766_1 := hx766_1
                            have hw766_0 := hx766_0
                            obtain rfl : ad762 = ad766 := (by injection e766)
                            replace hx766_0 := (HB.out.cell (World.block_lt_of_cell? w _ hx766_0)).trans hx766_0
                            replace hx766_1 := (HB.out.cell (World.block_lt_of_cell? w _ hx766_1)).trans hx766_1
                            replace hx766_2 := (HB.out.cell (World.block_lt_of_cell? w _ hx766_2)).trans hx766_2
                            replace p766 := eq_true p766
                            replace q766 := eq_true q766
                            have p767 : 0 ≤ ((ji12) : Int) := of_decide_eq_true (by first | (with_reducible assumption) | assumption)
                            have q767 : (ji12) < (l0.length : Int) := of_decide_eq_true (by first | (with_reducible assumption) | assumption)
                            obtain ⟨ad767, e767, hx767_0, hx767_1, hx767_2⟩ := at_T97 HR0.out (ji12) p767 q767
                            have hw767_2 := hx767_2
                            have hw767_1 := hx767_1
                            have hw767_0 := hx767_0
                            obtain rfl : ad762 = ad767 := (by injection e767)
                            replace hx767_0 := (HB.out.cell (World.block_lt_of_cell? w _ hx767_0)).trans hx767_0
                            replace hx767_1 := (HB.out.cell (World.block_lt_of_cell? w _ hx767_1)).trans hx767_1
                            replace hx767_2 := (HB.out.cell (World.block_lt_of_cell? w _ hx767_2)).trans hx767_2
                            replace p767 := eq_true p767
                            replace q767 := eq_true q767
                            have hq0_ : w23.cell? ⟨gb763, 0, none⟩ = some (.int .i64 ((rd_T97 l0 x14_1).f0)) := (blk_cell BK763.out 0).trans rfl
                            have hq1_ : w23.cell? ⟨gb763, 1, none⟩ = some (.int .i64 ((rd_T97 l0 x14_1).f1)) := (blk_cell BK763.out 1).trans rfl
                            have hq2_ : w23.cell? ⟨gb763, 2, none⟩ = some (.bool ((rd_T97 l0 x14_1).f2)) := (blk_cell BK763.out 2).trans rfl
                            have hq3_ : w23.cell? (ad762.add (((ji12)).toNat * 3)) = some (.int .i64 ((rd_T97 l0 (ji12)).f0)) := ((HB.out.cell (World.block_lt_of_cell? w _ hw766_0)).trans hw766_0)
                            have hq4_ : w23.cell? ⟨(ad762.add (((ji12)).toNat * 3)).block, (ad762.add (((ji12)).toNat * 3)).off + 1, none⟩ = some (.int .i64 ((rd_T97 l0 (ji12)).f1)) := ((HB.out.cell (World.block_lt_of_cell? w _ hw766_1)).trans hw766_1)
                            have hq5_ : w23.cell? ⟨(ad762.add (((ji12)).toNat * 3)).block, (ad762.add (((ji12)).toNat * 3)).off + 2, none⟩ = some (.bool ((rd_T97 l0 (ji12)).f2)) := ((HB.out.cell (World.block_lt_of_cell? w _ hw766_2)).trans hw766_2)
                            have hq6_ : w23.cell? (ad762.add (((ji12)).toNat * 3)) = some (.int .i64 ((rd_T97 l0 (ji12)).f0)) := ((HB.out.cell (World.block_lt_of_cell? w _ hw767_0)).trans hw767_0)
                            have hq7_ : w23.cell? ⟨(ad762.add (((ji12)).toNat * 3)).block, (ad762.add (((ji12)).toNat * 3)).off + 1, none⟩ = some (.int .i64 ((rd_T97 l0 (ji12)).f1)) := ((HB.out.cell (World.block_lt_of_cell? w _ hw767_1)).trans hw767_1)
                            have hq8_ : w23.cell? ⟨(ad762.add (((ji12)).toNat * 3)).block, (ad762.add (((ji12)).toNat * 3)).off + 2, none⟩ = some (.bool ((rd_T97 l0 (ji12)).f2)) := ((HB.out.cell (World.block_lt_of_cell? w _ hw767_2)).trans hw767_2)
                            go_quiet ((first | (go_at_call 66; apply Calls.quiet_of; ((with_reducible refine (impl_InRange.calls ((rd_T97 l0 x14_1).f1) 1 96 true _ A7.out).mono ?_); exact fun _ _ h_ => ⟨h_.1, h_.2.out⟩)) | (go_at_call 66; apply Calls.quiet_of; ((with_reducible refine (impl_InRange.calls ((rd_T97 l0 x14_1).f0) 0 3000 true _ A9.out).mono ?_); exact fun _ _ h_ => ⟨h_.1, h_.2.out⟩))))
                            have nBK763_ := Aside0.mk (blk_drewN (w := w23) BK763.out nq)
                            have nHB_ := Aside0.mk (pw_below_drewN (W := w23) ⟨HB.out.os, HB.out.tape, HB.out.output, HB.out.size, HB.out.block⟩ nq)
                            have nhx766_0_ : (w23.drewN nq).cell? _ = _ := hx766_0
                            have nhx766_1_ : (w23.drewN nq).cell? _ = _ := hx766_1
                            have nhx766_2_ : (w23.drewN nq).cell? _ = _ := hx766_2
                            have nhx767_0_ : (w23.drewN nq).cell? _ = _ := hx767_0
                            have nhx767_1_ : (w23.drewN nq).cell? _ = _ := hx767_1
                            have nhx767_2_ : (w23.drewN nq).cell? _ = _ := hx767_2
                            clear BK763 HB hx766_0 hx766_1 hx766_2 hx767_0 hx767_1 hx767_2 hq0_ hq1_ hq2_ hq3_ hq4_ hq5_ hq6_ hq7_ hq8_
                            have BK763 := nBK763_
                            have HB := nHB_
                            have hx766_0 := nhx766_0_
                            have hx766_1 := nhx766_1_
                            have hx766_2 := nhx766_2_
                            have hx767_0 := nhx767_0_
                            have hx767_1 := nhx767_1_
                            have hx767_2 := nhx767_2_
                            clear nBK763_ nHB_ nhx766_0_ nhx766_1_ nhx766_2_ nhx767_0_ nhx767_1_ nhx767_2_
                            generalize w23.drewN nq = w24 at BK763 HB hx766_0 hx766_1 hx766_2 hx767_0 hx767_1 hx767_2 ⊢
                            have hcz25_0 : w24.cell? ⟨gb763, 0, none⟩ = some (.int .i64 ((rd_T97 l0 x14_1).f0)) := (blk_cell BK763.out 0).trans rfl
                            have hcz25_1 : w24.cell? ⟨gb763, 1, none⟩ = some (.int .i64 ((rd_T97 l0 x14_1).f1)) := (blk_cell BK763.out 1).trans rfl
                            have hcz25_2 : w24.cell? ⟨gb763, 2, none⟩ = some (.bool ((rd_T97 l0 x14_1).f2)) := (blk_cell BK763.out 2).trans rfl
                            have hfz25_0 := blk_frozen BK763.out 0
                            have hfz25_1 := blk_frozen BK763.out 1
                            have hfz25_2 := blk_frozen BK763.out 2
                            try go_wp2
                            go_roundg k1
                            case measure => have := HK1.out; omega
                            case rel => exact ⟨(wrap64 (x5_1 + ((rd_T97 l0 x14_1).f1))), (wrap64 (x14_1 + 1)), (by first | rfl | (simp; done) | (simp [*]; done)), (by first | rfl | (simp; done) | (simp [*]; done)), H', ⟨by have := HK1.out; omega⟩, ⟨by repeat (first | (with_reducible first | exact HB.out | apply below_alloc | apply pw_below_drewN | apply below_drew1 | refine below_set ?_ GE763.out) | exact HB.out)⟩⟩
                        · rw [if_neg c15] at H
                          have c15b0 : (((rd_T97 l0 x14_1).f0) == (wrap64 (((rd_T97 l0 (ji12)).f0) + ((rd_T97 l0 (ji12)).f1)))) = false := beq_eq_false_iff_ne.mpr c15
                          have c15b1 : (((rd_T97 l0 x14_1).f0) != (wrap64 (((rd_T97 l0 (ji12)).f0) + ((rd_T97 l0 (ji12)).f1)))) = true := bne_iff_ne.mpr c15
                          simp only [Option.some.injEq, Prod.mk.injEq] at H
                          obtain ⟨rfl, rfl, rfl⟩ := H
                          have p762 : 0 ≤ (x14_1 : Int) := of_decide_eq_true (by first | (with_reducible assumption) | assumption)
                          have q762 : x14_1 < (l0.length : Int) := of_decide_eq_true (by first | (with_reducible assumption) | assumption)
                          obtain ⟨ad762, e762, hx762_0, hx762_1, hx762_2⟩ := at_T97 HR0.out x14_1 p762 q762
                          cases e762
                          replace hx762_0 := (HB.out.cell (World.block_lt_of_cell? w _ hx762_0)).trans hx762_0
                          replace hx762_1 := (HB.out.cell (World.block_lt_of_cell? w _ hx762_1)).trans hx762_1
                          replace hx762_2 := (HB.out.cell (World.block_lt_of_cell? w _ hx762_2)).trans hx762_2
                          replace p762 := eq_true p762
                          replace q762 := eq_true q762
                          try go_wp2_with (first | ((with_reducible refine gate_dst (N := 7) rfl ?_); (try (refine gate_guard (by rfl) ?_; dsimp only)); refine box_event ?hg (N := 7) ?hd (cs := #[.int .i64 0, .int .i64 0, .bool false]) (t := 97) ?hr ?_; (case hd => rfl); (case hg => rfl); (case hr => first | (go_simp; done) | (go_simp; rfl)); intro gb763 hg w26 hbox hb; have n0_ := Aside0.mk (below_step (by repeat (first | (with_reducible first | exact HB.out | apply below_alloc | apply pw_below_drewN | apply below_drew1) | exact HB.out)) hb); have n1_ := Aside0.mk (hbox); have n2_ := Aside0.mk ((by rw [hg]; exact (below_size (by repeat (first | (with_reducible first | exact HB.out | apply below_alloc | apply pw_below_drewN | apply below_drew1) | exact HB.out))) : w.heap.size ≤ gb763)); have n3_ := Aside0.mk ((by rw [hg]; exact (below_size (by repeat (first | (with_reducible first | exact HB.out | apply below_alloc | apply pw_below_drewN | apply below_drew1) | exact HB.out))) : w.heap.size ≤ gb763)); clear HB; have HB := n0_; have BK763 := n1_; have GW763 := n2_; have GE763 := n3_; clear n0_ n1_ n2_ n3_; clear hb hbox hg; have hcz27_0 : w26.cell? ⟨gb763, 0, none⟩ = some (.int .i64 0) := (blk_cell BK763.out 0).trans rfl; have hcz27_1 : w26.cell? ⟨gb763, 1, none⟩ = some (.int .i64 0) := (blk_cell BK763.out 1).trans rfl; have hcz27_2 : w26.cell? ⟨gb763, 2, none⟩ = some (.bool false) := (blk_cell BK763.out 2).trans rfl; have hfz27_0 := blk_frozen BK763.out 0; have hfz27_1 := blk_frozen BK763.out 1; have hfz27_2 := blk_frozen BK763.out 2))
                          have n0_ : Aside0 ((((w26.setCell ⟨gb763, 0, none⟩ (.int .i64 ((rd_T97 l0 x14_1).f0))).setCell ⟨gb763, 1, none⟩ (.int .i64 ((rd_T97 l0 x14_1).f1))).setCell ⟨gb763, 2, none⟩ (.bool ((rd_T97 l0 x14_1).f2))).heap[gb763]? = some (.cells #[.int .i64 ((rd_T97 l0 x14_1).f0), .int .i64 ((rd_T97 l0 x14_1).f1), .bool ((rd_T97 l0 x14_1).f2)] 97 (0, 0))) := ⟨by (with_reducible repeat (first | refine blk_drewN ?_ _ | refine blk_drew ?_ | refine blk_alloc ?_ _)); refine blk_put (cs := #[.int .i64 ((rd_T97 l0 x14_1).f0), .int .i64 ((rd_T97 l0 x14_1).f1), .bool false]) ?_ 2 _ rfl; (with_reducible repeat (first | refine blk_drewN ?_ _ | refine blk_drew ?_ | refine blk_alloc ?_ _)); refine blk_put (cs := #[.int .i64 ((rd_T97 l0 x14_1).f0), .int .i64 0, .bool false]) ?_ 1 _ rfl; (with_reducible repeat (first | refine blk_drewN ?_ _ | refine blk_drew ?_ | refine blk_alloc ?_ _)); refine blk_put (cs := #[.int .i64 0, .int .i64 0, .bool false]) ?_ 0 _ rfl; (with_reducible repeat (first | refine blk_drewN ?_ _ | refine blk_drew ?_ | refine blk_alloc ?_ _)); exact BK763.out⟩
                          have n1_ : Aside0 (Below w.heap.size w (((w26.setCell ⟨gb763, 0, none⟩ (.int .i64 ((rd_T97 l0 x14_1).f0))).setCell ⟨gb763, 1, none⟩ (.int .i64 ((rd_T97 l0 x14_1).f1))).setCell ⟨gb763, 2, none⟩ (.bool ((rd_T97 l0 x14_1).f2)))) := ⟨by repeat (first | (with_reducible first | exact HB.out | apply below_alloc | apply pw_below_drewN | apply below_drew1 | refine below_set ?_ GE763.out) | exact HB.out)⟩
                          (try clear BK763)
                          (try clear HB)
                          generalize (((w26.setCell ⟨gb763, 0, none⟩ (.int .i64 ((rd_T97 l0 x14_1).f0))).setCell ⟨gb763, 1, none⟩ (.int .i64 ((rd_T97 l0 x14_1).f1))).setCell ⟨gb763, 2, none⟩ (.bool ((rd_T97 l0 x14_1).f2))) = w28 at n0_ n1_ ⊢
                          have BK763 := n0_
                          have HB := n1_
                          clear n0_ n1_
                          have n0_ := Aside0.mk (blk_drew BK763.out)
                          have n1_ := Aside0.mk (below_drew1 HB.out)
                          clear BK763
                          clear HB
                          have BK763 := n0_
                          have HB := n1_
                          clear n0_ n1_
                          have p766 : 0 ≤ ((ji12) : Int) := of_decide_eq_true (by first | (with_reducible assumption) | assumption)
                          have q766 : (ji12) < (l0.length : Int) := of_decide_eq_true (by first | (with_reducible assumption) | assumption)
                          obtain ⟨ad766, e766, hx766_0, hx766_1, hx766_2⟩ := at_T97 HR0.out (ji12) p766 q766
                          have hw766_2 := hx766_2
                          have hw766_1 := hx766_1
                          have hw766_0 := hx766_0
                          obtain rfl : ad762 = ad766 := (by injection e766)
                          replace hx766_0 := (HB.out.cell (World.block_lt_of_cell? w _ hx766_0)).trans hx766_0
                          replace hx766_1 := (HB.out.cell (World.block_lt_of_cell? w _ hx766_1)).trans hx766_1
                          replace hx766_2 := (HB.out.cell (World.block_lt_of_cell? w _ hx766_2)).trans hx766_2
                          replace p766 := eq_true p766
                          replace q766 := eq_true q766
                          have p767 : 0 ≤ ((ji12) : Int) := of_decide_eq_true (by first | (with_reducible assumption) | assumption)
                          have q767 : (ji12) < (l0.length : Int) := of_decide_eq_true (by first | (with_reducible assumption) | assumption)
                          obtain ⟨ad767, e767, hx767_0, hx767_1, hx767_2⟩ := at_T97 HR0.out (ji12) p767 q767
                          have hw767_2 := hx767_2
                          have hw767_1 := hx767_1
                          have hw767_0 := hx767_0
                          obtain rfl : ad762 = ad767 := (by injection e767)
                          replace hx767_0 := (HB.out.cell (World.block_lt_of_cell? w _ hx767_0)).trans hx767_0
                          replace hx767_1 := (HB.out.cell (World.block_lt_of_cell? w _ hx767_1)).trans hx767_1
                          replace hx767_2 := (HB.out.cell (World.block_lt_of_cell? w _ hx767_2)).trans hx767_2
                          replace p767 := eq_true p767
                          replace q767 := eq_true q767
                          have hq0_ : w28.cell? ⟨gb763, 0, none⟩ = some (.int .i64 ((rd_T97 l0 x14_1).f0)) := (blk_cell BK763.out 0).trans rfl
                          have hq1_ : w28.cell? ⟨gb763, 1, none⟩ = some (.int .i64 ((rd_T97 l0 x14_1).f1)) := (blk_cell BK763.out 1).trans rfl
                          have hq2_ : w28.cell? ⟨gb763, 2, none⟩ = some (.bool ((rd_T97 l0 x14_1).f2)) := (blk_cell BK763.out 2).trans rfl
                          have hq3_ : w28.cell? (ad762.add (((ji12)).toNat * 3)) = some (.int .i64 ((rd_T97 l0 (ji12)).f0)) := ((HB.out.cell (World.block_lt_of_cell? w _ hw766_0)).trans hw766_0)
                          have hq4_ : w28.cell? ⟨(ad762.add (((ji12)).toNat * 3)).block, (ad762.add (((ji12)).toNat * 3)).off + 1, none⟩ = some (.int .i64 ((rd_T97 l0 (ji12)).f1)) := ((HB.out.cell (World.block_lt_of_cell? w _ hw766_1)).trans hw766_1)
                          have hq5_ : w28.cell? ⟨(ad762.add (((ji12)).toNat * 3)).block, (ad762.add (((ji12)).toNat * 3)).off + 2, none⟩ = some (.bool ((rd_T97 l0 (ji12)).f2)) := ((HB.out.cell (World.block_lt_of_cell? w _ hw766_2)).trans hw766_2)
                          have hq6_ : w28.cell? (ad762.add (((ji12)).toNat * 3)) = some (.int .i64 ((rd_T97 l0 (ji12)).f0)) := ((HB.out.cell (World.block_lt_of_cell? w _ hw767_0)).trans hw767_0)
                          have hq7_ : w28.cell? ⟨(ad762.add (((ji12)).toNat * 3)).block, (ad762.add (((ji12)).toNat * 3)).off + 1, none⟩ = some (.int .i64 ((rd_T97 l0 (ji12)).f1)) := ((HB.out.cell (World.block_lt_of_cell? w _ hw767_1)).trans hw767_1)
                          have hq8_ : w28.cell? ⟨(ad762.add (((ji12)).toNat * 3)).block, (ad762.add (((ji12)).toNat * 3)).off + 2, none⟩ = some (.bool ((rd_T97 l0 (ji12)).f2)) := ((HB.out.cell (World.block_lt_of_cell? w _ hw767_2)).trans hw767_2)
                          go_quiet ((first | (go_at_call 66; apply Calls.quiet_of; ((with_reducible refine (impl_InRange.calls ((rd_T97 l0 x14_1).f1) 1 96 true _ A7.out).mono ?_); exact fun _ _ h_ => ⟨h_.1, h_.2.out⟩)) | (go_at_call 66; apply Calls.quiet_of; ((with_reducible refine (impl_InRange.calls ((rd_T97 l0 x14_1).f0) 0 3000 true _ A9.out).mono ?_); exact fun _ _ h_ => ⟨h_.1, h_.2.out⟩))))
                          have nBK763_ := Aside0.mk (blk_drewN (w := w28) BK763.out nq)
                          have nHB_ := Aside0.mk (pw_below_drewN (W := w28) ⟨HB.out.os, HB.out.tape, HB.out.output, HB.out.size, HB.out.block⟩ nq)
                          have nhx766_0_ : (w28.drewN nq).cell? _ = _ := hx766_0
                          have nhx766_1_ : (w28.drewN nq).cell? _ = _ := hx766_1
                          have nhx766_2_ : (w28.drewN nq).cell? _ = _ := hx766_2
                          have nhx767_0_ : (w28.drewN nq).cell? _ = _ := hx767_0
                          have nhx767_1_ : (w28.drewN nq).cell? _ = _ := hx767_1
                          have nhx767_2_ : (w28.drewN nq).cell? _ = _ := hx767_2
                          clear BK763 HB hx766_0 hx766_1 hx766_2 hx767_0 hx767_1 hx767_2 hq0_ hq1_ hq2_ hq3_ hq4_ hq5_ hq6_ hq7_ hq8_
                          have BK763 := nBK763_
                          have HB := nHB_
                          have hx766_0 := nhx766_0_
                          have hx766_1 := nhx766_1_
                          have hx766_2 := nhx766_2_
                          have hx767_0 := nhx767_0_
                          have hx767_1 := nhx767_1_
                          have hx767_2 := nhx767_2_
                          clear nBK763_ nHB_ nhx766_0_ nhx766_1_ nhx766_2_ nhx767_0_ nhx767_1_ nhx767_2_
                          generalize w28.drewN nq = w29 at BK763 HB hx766_0 hx766_1 hx766_2 hx767_0 hx767_1 hx767_2 ⊢
                          try go_wp2
                          go_ret3
                          exact ⟨by first | rfl | (simp [errW_none, errW_some] <;> rfl) | (simp only [← hji12]; first | rfl | (simp [errW_none, errW_some] <;> rfl)) | (simp [*, errW_none, errW_some] <;> rfl), by repeat (first | (with_reducible first | exact HB.out | apply below_alloc | apply pw_below_drewN | apply below_drew1 | refine below_set ?_ GE763.out) | exact HB.out)⟩
                      · rw [if_neg c14] at H
                        exact absurd H (by simp)
                    · rw [if_neg c13] at H
                      exact absurd H (by simp)
                  · rw [if_neg c11] at H
                    have c11b0 : decide (0 < x14_1) = false := decide_eq_false c11
                    clear c11
                    by_cases c30 : (((rd_T97 l0 x14_1).f2) != (decide (x14_1 < (wrap64 ((l0.length : Int) - 1))))) = true
                    · rw [if_pos c30] at H
                      have c30b0 : (((rd_T97 l0 x14_1).f2) != (decide (x14_1 < (wrap64 ((l0.length : Int) - 1))))) = true := c30
                      (try (have c30b1 : decide (((rd_T97 l0 x14_1).f2) = (decide (x14_1 < (wrap64 ((l0.length : Int) - 1))))) = false := by simpa using c30))
                      (try (have c30b2 : (((rd_T97 l0 x14_1).f2) == (decide (x14_1 < (wrap64 ((l0.length : Int) - 1))))) = false := by simpa using c30))
                      (try (have c30b3 : ¬ (((rd_T97 l0 x14_1).f2) = (decide (x14_1 < (wrap64 ((l0.length : Int) - 1))))) := by simpa using c30))
                      clear c30
                      simp only [Option.some.injEq, Prod.mk.injEq] at H
                      obtain ⟨rfl, rfl, rfl⟩ := H
                      have p762 : 0 ≤ (x14_1 : Int) := of_decide_eq_true (by first | (with_reducible assumption) | assumption)
                      have q762 : x14_1 < (l0.length : Int) := of_decide_eq_true (by first | (with_reducible assumption) | assumption)
                      obtain ⟨ad762, e762, hx762_0, hx762_1, hx762_2⟩ := at_T97 HR0.out x14_1 p762 q762
                      cases e762
                      replace hx762_0 := (HB.out.cell (World.block_lt_of_cell? w _ hx762_0)).trans hx762_0
                      replace hx762_1 := (HB.out.cell (World.block_lt_of_cell? w _ hx762_1)).trans hx762_1
                      replace hx762_2 := (HB.out.cell (World.block_lt_of_cell? w _ hx762_2)).trans hx762_2
                      replace p762 := eq_true p762
                      replace q762 := eq_true q762
                      try go_wp2_with (first | ((with_reducible refine gate_dst (N := 7) rfl ?_); (try (refine gate_guard (by rfl) ?_; dsimp only)); refine box_event ?hg (N := 7) ?hd (cs := #[.int .i64 0, .int .i64 0, .bool false]) (t := 97) ?hr ?_; (case hd => rfl); (case hg => rfl); (case hr => first | (go_simp; done) | (go_simp; rfl)); intro gb763 hg w31 hbox hb; have n0_ := Aside0.mk (below_step (by repeat (first | (with_reducible first | exact HB.out | apply below_alloc | apply pw_below_drewN | apply below_drew1) | exact HB.out)) hb); have n1_ := Aside0.mk (hbox); have n2_ := Aside0.mk ((by rw [hg]; exact (below_size (by repeat (first | (with_reducible first | exact HB.out | apply below_alloc | apply pw_below_drewN | apply below_drew1) | exact HB.out))) : w.heap.size ≤ gb763)); have n3_ := Aside0.mk ((by rw [hg]; exact (below_size (by repeat (first | (with_reducible first | exact HB.out | apply below_alloc | apply pw_below_drewN | apply below_drew1) | exact HB.out))) : w.heap.size ≤ gb763)); clear HB; have HB := n0_; have BK763 := n1_; have GW763 := n2_; have GE763 := n3_; clear n0_ n1_ n2_ n3_; clear hb hbox hg; have hcz32_0 : w31.cell? ⟨gb763, 0, none⟩ = some (.int .i64 0) := (blk_cell BK763.out 0).trans rfl; have hcz32_1 : w31.cell? ⟨gb763, 1, none⟩ = some (.int .i64 0) := (blk_cell BK763.out 1).trans rfl; have hcz32_2 : w31.cell? ⟨gb763, 2, none⟩ = some (.bool false) := (blk_cell BK763.out 2).trans rfl; have hfz32_0 := blk_frozen BK763.out 0; have hfz32_1 := blk_frozen BK763.out 1; have hfz32_2 := blk_frozen BK763.out 2))
                      have n0_ : Aside0 ((((w31.setCell ⟨gb763, 0, none⟩ (.int .i64 ((rd_T97 l0 x14_1).f0))).setCell ⟨gb763, 1, none⟩ (.int .i64 ((rd_T97 l0 x14_1).f1))).setCell ⟨gb763, 2, none⟩ (.bool ((rd_T97 l0 x14_1).f2))).heap[gb763]? = some (.cells #[.int .i64 ((rd_T97 l0 x14_1).f0), .int .i64 ((rd_T97 l0 x14_1).f1), .bool ((rd_T97 l0 x14_1).f2)] 97 (0, 0))) := ⟨by (with_reducible repeat (first | refine blk_drewN ?_ _ | refine blk_drew ?_ | refine blk_alloc ?_ _)); refine blk_put (cs := #[.int .i64 ((rd_T97 l0 x14_1).f0), .int .i64 ((rd_T97 l0 x14_1).f1), .bool false]) ?_ 2 _ rfl; (with_reducible repeat (first | refine blk_drewN ?_ _ | refine blk_drew ?_ | refine blk_alloc ?_ _)); refine blk_put (cs := #[.int .i64 ((rd_T97 l0 x14_1).f0), .int .i64 0, .bool false]) ?_ 1 _ rfl; (with_reducible repeat (first | refine blk_drewN ?_ _ | refine blk_drew ?_ | refine blk_alloc ?_ _)); refine blk_put (cs := #[.int .i64 0, .int .i64 0, .bool false]) ?_ 0 _ rfl; (with_reducible repeat (first | refine blk_drewN ?_ _ | refine blk_drew ?_ | refine blk_alloc ?_ _)); exact BK763.out⟩
                      have n1_ : Aside0 (Below w.heap.size w (((w31.setCell ⟨gb763, 0, none⟩ (.int .i64 ((rd_T97 l0 x14_1).f0))).setCell ⟨gb763, 1, none⟩ (.int .i64 ((rd_T97 l0 x14_1).f1))).setCell ⟨gb763, 2, none⟩ (.bool ((rd_T97 l0 x14_1).f2)))) := ⟨by repeat (first | (with_reducible first | exact HB.out | apply below_alloc | apply pw_below_drewN | apply below_drew1 | refine below_set ?_ GE763.out) | exact HB.out)⟩
                      (try clear BK763)
                      (try clear HB)
                      generalize (((w31.setCell ⟨gb763, 0, none⟩ (.int .i64 ((rd_T97 l0 x14_1).f0))).setCell ⟨gb763, 1, none⟩ (.int .i64 ((rd_T97 l0 x14_1).f1))).setCell ⟨gb763, 2, none⟩ (.bool ((rd_T97 l0 x14_1).f2))) = w33 at n0_ n1_ ⊢
                      have BK763 := n0_
                      have HB := n1_
                      clear n0_ n1_
                      have n0_ := Aside0.mk (blk_drew BK763.out)
                      have n1_ := Aside0.mk (below_drew1 HB.out)
                      clear BK763
                      clear HB
                      have BK763 := n0_
                      have HB := n1_
                      clear n0_ n1_
                      have hq0_ : w33.cell? ⟨gb763, 0, none⟩ = some (.int .i64 ((rd_T97 l0 x14_1).f0)) := (blk_cell BK763.out 0).trans rfl
                      have hq1_ : w33.cell? ⟨gb763, 1, none⟩ = some (.int .i64 ((rd_T97 l0 x14_1).f1)) := (blk_cell BK763.out 1).trans rfl
                      have hq2_ : w33.cell? ⟨gb763, 2, none⟩ = some (.bool ((rd_T97 l0 x14_1).f2)) := (blk_cell BK763.out 2).trans rfl
                      go_quiet ((first | (go_at_call 66; apply Calls.quiet_of; ((with_reducible refine (impl_InRange.calls ((rd_T97 l0 x14_1).f1) 1 96 true _ A7.out).mono ?_); exact fun _ _ h_ => ⟨h_.1, h_.2.out⟩)) | (go_at_call 66; apply Calls.quiet_of; ((with_reducible refine (impl_InRange.calls ((rd_T97 l0 x14_1).f0) 0 3000 true _ A9.out).mono ?_); exact fun _ _ h_ => ⟨h_.1, h_.2.out⟩))))
                      have nBK763_ := Aside0.mk (blk_drewN (w := w33) BK763.out nq)
                      have nHB_ := Aside0.mk (pw_below_drewN (W := w33) ⟨HB.out.os, HB.out.tape, HB.out.output, HB.out.size, HB.out.block⟩ nq)
                      clear BK763 HB hq0_ hq1_ hq2_
                      have BK763 := nBK763_
                      have HB := nHB_
                      clear nBK763_ nHB_
                      generalize w33.drewN nq = w34 at BK763 HB ⊢
                      try go_wp2
                      go_ret3
                      exact ⟨by first | rfl | (simp [errW_none, errW_some] <;> rfl) | (simp [*, errW_none, errW_some] <;> rfl), by repeat (first | (with_reducible first | exact HB.out | apply below_alloc | apply pw_below_drewN | apply below_drew1 | refine below_set ?_ GE763.out) | exact HB.out)⟩
                    · rw [if_neg c30] at H
                      have c30b0 : (((rd_T97 l0 x14_1).f2) != (decide (x14_1 < (wrap64 ((l0.length : Int) - 1))))) = false := by simpa using c30
                      (try (have c30b1 : decide (((rd_T97 l0 x14_1).f2) = (decide (x14_1 < (wrap64 ((l0.length : Int) - 1))))) = true := by simpa using c30))
                      (try (have c30b2 : (((rd_T97 l0 x14_1).f2) == (decide (x14_1 < (wrap64 ((l0.length : Int) - 1))))) = true := by simpa using c30))
                      clear c30
                      have H' := Aside0.mk H
                      clear H
                      have p762 : 0 ≤ (x14_1 : Int) := of_decide_eq_true (by first | (with_reducible assumption) | assumption)
                      have q762 : x14_1 < (l0.length : Int) := of_decide_eq_true (by first | (with_reducible assumption) | assumption)
                      obtain ⟨ad762, e762, hx762_0, hx762_1, hx762_2⟩ := at_T97 HR0.out x14_1 p762 q762
                      cases e762
                      replace hx762_0 := (HB.out.cell (World.block_lt_of_cell? w _ hx762_0)).trans hx762_0
                      replace hx762_1 := (HB.out.cell (World.block_lt_of_cell? w _ hx762_1)).trans hx762_1
                      replace hx762_2 := (HB.out.cell (World.block_lt_of_cell? w _ hx762_2)).trans hx762_2
                      replace p762 := eq_true p762
                      replace q762 := eq_true q762
                      try go_wp2_with (first | ((with_reducible refine gate_dst (N := 7) rfl ?_); (try (refine gate_guard (by rfl) ?_; dsimp only)); refine box_event ?hg (N := 7) ?hd (cs := #[.int .i64 0, .int .i64 0, .bool false]) (t := 97) ?hr ?_; (case hd => rfl); (case hg => rfl); (case hr => first | (go_simp; done) | (go_simp; rfl)); intro gb763 hg w35 hbox hb; have n0_ := Aside0.mk (below_step (by repeat (first | (with_reducible first | exact HB.out | apply below_alloc | apply pw_below_drewN | apply below_drew1) | exact HB.out)) hb); have n1_ := Aside0.mk (hbox); have n2_ := Aside0.mk ((by rw [hg]; exact (below_size (by repeat (first | (with_reducible first | exact HB.out | apply below_alloc | apply pw_below_drewN | apply below_drew1) | exact HB.out))) : w.heap.size ≤ gb763)); have n3_ := Aside0.mk ((by rw [hg]; exact (below_size (by repeat (first | (with_reducible first | exact HB.out | apply below_alloc | apply pw_below_drewN | apply below_drew1) | exact HB.out))) : w.heap.size ≤ gb763)); clear HB; have HB := n0_; have BK763 := n1_; have GW763 := n2_; have GE763 := n3_; clear n0_ n1_ n2_ n3_; clear hb hbox hg; have hcz36_0 : w35.cell? ⟨gb763, 0, none⟩ = some (.int .i64 0) := (blk_cell BK763.out 0).trans rfl; have hcz36_1 : w35.cell? ⟨gb763, 1, none⟩ = some (.int .i64 0) := (blk_cell BK763.out 1).trans rfl; have hcz36_2 : w35.cell? ⟨gb763, 2, none⟩ = some (.bool false) := (blk_cell BK763.out 2).trans rfl; have hfz36_0 := blk_frozen BK763.out 0; have hfz36_1 := blk_frozen BK763.out 1; have hfz36_2 := blk_frozen BK763.out 2))
                      have n0_ : Aside0 ((((w35.setCell ⟨gb763, 0, none⟩ (.int .i64 ((rd_T97 l0 x14_1).f0))).setCell ⟨gb763, 1, none⟩ (.int .i64 ((rd_T97 l0 x14_1).f1))).setCell ⟨gb763, 2, none⟩ (.bool ((rd_T97 l0 x14_1).f2))).heap[gb763]? = some (.cells #[.int .i64 ((rd_T97 l0 x14_1).f0), .int .i64 ((rd_T97 l0 x14_1).f1), .bool ((rd_T97 l0 x14_1).f2)] 97 (0, 0))) := ⟨by (with_reducible repeat (first | refine blk_drewN ?_ _ | refine blk_drew ?_ | refine blk_alloc ?_ _)); refine blk_put (cs := #[.int .i64 ((rd_T97 l0 x14_1).f0), .int .i64 ((rd_T97 l0 x14_1).f1), .bool false]) ?_ 2 _ rfl; (with_reducible repeat (first | refine blk_drewN ?_ _ | refine blk_drew ?_ | refine blk_alloc ?_ _)); refine blk_put (cs := #[.int .i64 ((rd_T97 l0 x14_1).f0), .int .i64 0, .bool false]) ?_ 1 _ rfl; (with_reducible repeat (first | refine blk_drewN ?_ _ | refine blk_drew ?_ | refine blk_alloc ?_ _)); refine blk_put (cs := #[.int .i64 0, .int .i64 0, .bool false]) ?_ 0 _ rfl; (with_reducible repeat (first | refine blk_drewN ?_ _ | refine blk_drew ?_ | refine blk_alloc ?_ _)); exact BK763.out⟩
                      have n1_ : Aside0 (Below w.heap.size w (((w35.setCell ⟨gb763, 0, none⟩ (.int .i64 ((rd_T97 l0 x14_1).f0))).setCell ⟨gb763, 1, none⟩ (.int .i64 ((rd_T97 l0 x14_1).f1))).setCell ⟨gb763, 2, none⟩ (.bool ((rd_T97 l0 x14_1).f2)))) := ⟨by repeat (first | (with_reducible first | exact HB.out | apply below_alloc | apply pw_below_drewN | apply below_drew1 | refine below_set ?_ GE763.out) | exact HB.out)⟩
                      (try clear BK763)
                      (try clear HB)
                      generalize (((w35.setCell ⟨gb763, 0, none⟩ (.int .i64 ((rd_T97 l0 x14_1).f0))).setCell ⟨gb763, 1, none⟩ (.int .i64 ((rd_T97 l0 x14_1).f1))).setCell ⟨gb763, 2, none⟩ (.bool ((rd_T97 l0 x14_1).f2))) = w37 at n0_ n1_ ⊢
                      have BK763 := n0_
                      have HB := n1_
                      clear n0_ n1_
                      have n0_ := Aside0.mk (blk_drew BK763.out)
                      have n1_ := Aside0.mk (below_drew1 HB.out)
                      clear BK763
                      clear HB
                      have BK763 := n0_
                      have HB := n1_
                      clear n0_ n1_
                      have hq0_ : w37.cell? ⟨gb763, 0, none⟩ = some (.int .i64 ((rd_T97 l0 x14_1).f0)) := (blk_cell BK763.out 0).trans rfl
                      have hq1_ : w37.cell? ⟨gb763, 1, none⟩ = some (.int .i64 ((rd_T97 l0 x14_1).f1)) := (blk_cell BK763.out 1).trans rfl
                      have hq2_ : w37.cell? ⟨gb763, 2, none⟩ = some (.bool ((rd_T97 l0 x14_1).f2)) := (blk_cell BK763.out 2).trans rfl
                      go_quiet ((first | (go_at_call 66; apply Calls.quiet_of; ((with_reducible refine (impl_InRange.calls ((rd_T97 l0 x14_1).f1) 1 96 true _ A7.out).mono ?_); exact fun _ _ h_ => ⟨h_.1, h_.2.out⟩)) | (go_at_call 66; apply Calls.quiet_of; ((with_reducible refine (impl_InRange.calls ((rd_T97 l0 x14_1).f0) 0 3000 true _ A9.out).mono ?_); exact fun _ _ h_ => ⟨h_.1, h_.2.out⟩))))
                      have nBK763_ := Aside0.mk (blk_drewN (w := w37) BK763.out nq)
                      have nHB_ := Aside0.mk (pw_below_drewN (W := w37) ⟨HB.out.os, HB.out.tape, HB.out.output, HB.out.size, HB.out.block⟩ nq)
                      clear BK763 HB hq0_ hq1_ hq2_
                      have BK763 := nBK763_
                      have HB := nHB_
                      clear nBK763_ nHB_
                      generalize w37.drewN nq = w38 at BK763 HB ⊢
                      have hcz39_0 : w38.cell? ⟨gb763, 0, none⟩ = some (.int .i64 ((rd_T97 l0 x14_1).f0)) := (blk_cell BK763.out 0).trans rfl
                      have hcz39_1 : w38.cell? ⟨gb763, 1, none⟩ = some (.int .i64 ((rd_T97 l0 x14_1).f1)) := (blk_cell BK763.out 1).trans rfl
                      have hcz39_2 : w38.cell? ⟨gb763, 2, none⟩ = some (.bool ((rd_T97 l0 x14_1).f2)) := (blk_cell BK763.out 2).trans rfl
                      have hfz39_0 := blk_frozen BK763.out 0
                      have hfz39_1 := blk_frozen BK763.out 1
                      have hfz39_2 := blk_frozen BK763.out 2
                      try go_wp2
                      go_roundg k1
                      case measure => have := HK1.out; omega
                      case rel => exact ⟨(wrap64 (x5_1 + ((rd_T97 l0 x14_1).f1))), (wrap64 (x14_1 + 1)), (by first | rfl | (simp; done) | (simp [*]; done)), (by first | rfl | (simp; done) | (simp [*]; done)), H', ⟨by have := HK1.out; omega⟩, ⟨by repeat (first | (with_reducible first | exact HB.out | apply below_alloc | apply pw_below_drewN | apply below_drew1 | refine below_set ?_ GE763.out) | exact HB.out)⟩⟩
                · replace c10 := Bool.eq_false_iff.mpr c10
                  subst c10
                  have H1 : (some (0, 0, false)) = some (r1, r2, r3) := by rw [if_neg (show ¬ (false = true) by decide)] at H; exact H
                  clear H
                  have H := H1
                  clear H1
                  simp only [Option.some.injEq, Prod.mk.injEq] at H
                  obtain ⟨rfl, rfl, rfl⟩ := H
                  have p762 : 0 ≤ (x14_1 : Int) := of_decide_eq_true (by first | (with_reducible assumption) | assumption)
                  have q762 : x14_1 < (l0.length : Int) := of_decide_eq_true (by first | (with_reducible assumption) | assumption)
                  obtain ⟨ad762, e762, hx762_0, hx762_1, hx762_2⟩ := at_T97 HR0.out x14_1 p762 q762
                  cases e762
                  replace hx762_0 := (HB.out.cell (World.block_lt_of_cell? w _ hx762_0)).trans hx762_0
                  replace hx762_1 := (HB.out.cell (World.block_lt_of_cell? w _ hx762_1)).trans hx762_1
                  replace hx762_2 := (HB.out.cell (World.block_lt_of_cell? w _ hx762_2)).trans hx762_2
                  replace p762 := eq_true p762
                  replace q762 := eq_true q762
                  try go_wp2_with (first | ((with_reducible refine gate_dst (N := 7) rfl ?_); (try (refine gate_guard (by rfl) ?_; dsimp only)); refine box_event ?hg (N := 7) ?hd (cs := #[.int .i64 0, .int .i64 0, .bool false]) (t := 97) ?hr ?_; (case hd => rfl); (case hg => rfl); (case hr => first | (go_simp; done) | (go_simp; rfl)); intro gb763 hg w40 hbox hb; have n0_ := Aside0.mk (below_step (by repeat (first | (with_reducible first | exact HB.out | apply below_alloc | apply pw_below_drewN | apply below_drew1) | exact HB.out)) hb); have n1_ := Aside0.mk (hbox); have n2_ := Aside0.mk ((by rw [hg]; exact (below_size (by repeat (first | (with_reducible first | exact HB.out | apply below_alloc | apply pw_below_drewN | apply below_drew1) | exact HB.out))) : w.heap.size ≤ gb763)); have n3_ := Aside0.mk ((by rw [hg]; exact (below_size (by repeat (first | (with_reducible first | exact HB.out | apply below_alloc | apply pw_below_drewN | apply below_drew1) | exact HB.out))) : w.heap.size ≤ gb763)); clear HB; have HB := n0_; have BK763 := n1_; have GW763 := n2_; have GE763 := n3_; clear n0_ n1_ n2_ n3_; clear hb hbox hg; have hcz41_0 : w40.cell? ⟨gb763, 0, none⟩ = some (.int .i64 0) := (blk_cell BK763.out 0).trans rfl; have hcz41_1 : w40.cell? ⟨gb763, 1, none⟩ = some (.int .i64 0) := (blk_cell BK763.out 1).trans rfl; have hcz41_2 : w40.cell? ⟨gb763, 2, none⟩ = some (.bool false) := (blk_cell BK763.out 2).trans rfl; have hfz41_0 := blk_frozen BK763.out 0; have hfz41_1 := blk_frozen BK763.out 1; have hfz41_2 := blk_frozen BK763.out 2))
                  have n0_ : Aside0 ((((w40.setCell ⟨gb763, 0, none⟩ (.int .i64 ((rd_T97 l0 x14_1).f0))).setCell ⟨gb763, 1, none⟩ (.int .i64 ((rd_T97 l0 x14_1).f1))).setCell ⟨gb763, 2, none⟩ (.bool ((rd_T97 l0 x14_1).f2))).heap[gb763]? = some (.cells #[.int .i64 ((rd_T97 l0 x14_1).f0), .int .i64 ((rd_T97 l0 x14_1).f1), .bool ((rd_T97 l0 x14_1).f2)] 97 (0, 0))) := ⟨by (with_reducible repeat (first | refine blk_drewN ?_ _ | refine blk_drew ?_ | refine blk_alloc ?_ _)); refine blk_put (cs := #[.int .i64 ((rd_T97 l0 x14_1).f0), .int .i64 ((rd_T97 l0 x14_1).f1), .bool false]) ?_ 2 _ rfl; (with_reducible repeat (first | refine blk_drewN ?_ _ | refine blk_drew ?_ | refine blk_alloc ?_ _)); refine blk_put (cs := #[.int .i64 ((rd_T97 l0 x14_1).f0), .int .i64 0, .bool false]) ?_ 1 _ rfl; (with_reducible repeat (first | refine blk_drewN ?_ _ | refine blk_drew ?_ | refine blk_alloc ?_ _)); refine blk_put (cs := #[.int .i64 0, .int .i64 0, .bool false]) ?_ 0 _ rfl; (with_reducible repeat (first | refine blk_drewN ?_ _ | refine blk_drew ?_ | refine blk_alloc ?_ _)); exact BK763.out⟩
                  have n1_ : Aside0 (Below w.heap.size w (((w40.setCell ⟨gb763, 0, none⟩ (.int .i64 ((rd_T97 l0 x14_1).f0))).setCell ⟨gb763, 1, none⟩ (.int .i64 ((rd_T97 l0 x14_1).f1))).setCell ⟨gb763, 2, none⟩ (.bool ((rd_T97 l0 x14_1).f2)))) := ⟨by repeat (first | (with_reducible first | exact HB.out | apply below_alloc | apply pw_below_drewN | apply below_drew1 | refine below_set ?_ GE763.out) | exact HB.out)⟩
                  (try clear BK763)
                  (try clear HB)
                  generalize (((w40.setCell ⟨gb763, 0, none⟩ (.int .i64 ((rd_T97 l0 x14_1).f0))).setCell ⟨gb763, 1, none⟩ (.int .i64 ((rd_T97 l0 x14_1).f1))).setCell ⟨gb763, 2, none⟩ (.bool ((rd_T97 l0 x14_1).f2))) = w42 at n0_ n1_ ⊢
                  have BK763 := n0_
                  have HB := n1_
                  clear n0_ n1_
                  have n0_ := Aside0.mk (blk_drew BK763.out)
                  have n1_ := Aside0.mk (below_drew1 HB.out)
                  clear BK763
                  clear HB
                  have BK763 := n0_
                  have HB := n1_
                  clear n0_ n1_
                  have hq0_ : w42.cell? ⟨gb763, 0, none⟩ = some (.int .i64 ((rd_T97 l0 x14_1).f0)) := (blk_cell BK763.out 0).trans rfl
                  have hq1_ : w42.cell? ⟨gb763, 1, none⟩ = some (.int .i64 ((rd_T97 l0 x14_1).f1)) := (blk_cell BK763.out 1).trans rfl
                  have hq2_ : w42.cell? ⟨gb763, 2, none⟩ = some (.bool ((rd_T97 l0 x14_1).f2)) := (blk_cell BK763.out 2).trans rfl
                  go_quiet ((first | (go_at_call 66; apply Calls.quiet_of; ((with_reducible refine (impl_InRange.calls ((rd_T97 l0 x14_1).f1) 1 96 true _ A7.out).mono ?_); exact fun _ _ h_ => ⟨h_.1, h_.2.out⟩)) | (go_at_call 66; apply Calls.quiet_of; ((with_reducible refine (impl_InRange.calls ((rd_T97 l0 x14_1).f0) 0 3000 false _ A9.out).mono ?_); exact fun _ _ h_ => ⟨h_.1, h_.2.out⟩))))
                  have nBK763_ := Aside0.mk (blk_drewN (w := w42) BK763.out nq)
                  have nHB_ := Aside0.mk (pw_below_drewN (W := w42) ⟨HB.out.os, HB.out.tape, HB.out.output, HB.out.size, HB.out.block⟩ nq)
                  clear BK763 HB hq0_ hq1_ hq2_
                  have BK763 := nBK763_
                  have HB := nHB_
                  clear nBK763_ nHB_
                  generalize w42.drewN nq = w43 at BK763 HB ⊢
                  try go_wp2
                  go_ret3
                  exact ⟨by first | rfl | (simp [errW_none, errW_some] <;> rfl) | (simp [*, errW_none, errW_some] <;> rfl), by repeat (first | (with_reducible first | exact HB.out | apply below_alloc | apply pw_below_drewN | apply below_drew1 | refine below_set ?_ GE763.out) | exact HB.out)⟩
              · replace c8 := Bool.eq_false_iff.mpr c8
                subst c8
                have H1 : (some (0, 0, false)) = some (r1, r2, r3) := by rw [if_neg (show ¬ (false = true) by decide)] at H; exact H
                clear H
                have H := H1
                clear H1
                simp only [Option.some.injEq, Prod.mk.injEq] at H
                obtain ⟨rfl, rfl, rfl⟩ := H
                have p762 : 0 ≤ (x14_1 : Int) := of_decide_eq_true (by first | (with_reducible assumption) | assumption)
                have q762 : x14_1 < (l0.length : Int) := of_decide_eq_true (by first | (with_reducible assumption) | assumption)
                obtain ⟨ad762, e762, hx762_0, hx762_1, hx762_2⟩ := at_T97 HR0.out x14_1 p762 q762
                cases e762
                replace hx762_0 := (HB.out.cell (World.block_lt_of_cell? w _ hx762_0)).trans hx762_0
                replace hx762_1 := (HB.out.cell (World.block_lt_of_cell? w _ hx762_1)).trans hx762_1
                replace hx762_2 := (HB.out.cell (World.block_lt_of_cell? w _ hx762_2)).trans hx762_2
                replace p762 := eq_true p762
                replace q762 := eq_true q762
                try go_wp2_with (first | ((with_reducible refine gate_dst (N := 7) rfl ?_); (try (refine gate_guard (by rfl) ?_; dsimp only)); refine box_event ?hg (N := 7) ?hd (cs := #[.int .i64 0, .int .i64 0, .bool false]) (t := 97) ?hr ?_; (case hd => rfl); (case hg => rfl); (case hr => first | (go_simp; done) | (go_simp; rfl)); intro gb763 hg w44 hbox hb; have n0_ := Aside0.mk (below_step (by repeat (first | (with_reducible first | exact HB.out | apply below_alloc | apply pw_below_drewN | apply below_drew1) | exact HB.out)) hb); have n1_ := Aside0.mk (hbox); have n2_ := Aside0.mk ((by rw [hg]; exact (below_size (by repeat (first | (with_reducible first | exact HB.out | apply below_alloc | apply pw_below_drewN | apply below_drew1) | exact HB.out))) : w.heap.size ≤ gb763)); have n3_ := Aside0.mk ((by rw [hg]; exact (below_size (by repeat (first | (with_reducible first | exact HB.out | apply below_alloc | apply pw_below_drewN | apply below_drew1) | exact HB.out))) : w.heap.size ≤ gb763)); clear HB; have HB := n0_; have BK763 := n1_; have GW763 := n2_; have GE763 := n3_; clear n0_ n1_ n2_ n3_; clear hb hbox hg; have hcz45_0 : w44.cell? ⟨gb763, 0, none⟩ = some (.int .i64 0) := (blk_cell BK763.out 0).trans rfl; have hcz45_1 : w44.cell? ⟨gb763, 1, none⟩ = some (.int .i64 0) := (blk_cell BK763.out 1).trans rfl; have hcz45_2 : w44.cell? ⟨gb763, 2, none⟩ = some (.bool false) := (blk_cell BK763.out 2).trans rfl; have hfz45_0 := blk_frozen BK763.out 0; have hfz45_1 := blk_frozen BK763.out 1; have hfz45_2 := blk_frozen BK763.out 2))
                have n0_ : Aside0 ((((w44.setCell ⟨gb763, 0, none⟩ (.int .i64 ((rd_T97 l0 x14_1).f0))).setCell ⟨gb763, 1, none⟩ (.int .i64 ((rd_T97 l0 x14_1).f1))).setCell ⟨gb763, 2, none⟩ (.bool ((rd_T97 l0 x14_1).f2))).heap[gb763]? = some (.cells #[.int .i64 ((rd_T97 l0 x14_1).f0), .int .i64 ((rd_T97 l0 x14_1).f1), .bool ((rd_T97 l0 x14_1).f2)] 97 (0, 0))) := ⟨by (with_reducible repeat (first | refine blk_drewN ?_ _ | refine blk_drew ?_ | refine blk_alloc ?_ _)); refine blk_put (cs := #[.int .i64 ((rd_T97 l0 x14_1).f0), .int .i64 ((rd_T97 l0 x14_1).f1), .bool false]) ?_ 2 _ rfl; (with_reducible repeat (first | refine blk_drewN ?_ _ | refine blk_drew ?_ | refine blk_alloc ?_ _)); refine blk_put (cs := #[.int .i64 ((rd_T97 l0 x14_1).f0), .int .i64 0, .bool false]) ?_ 1 _ rfl; (with_reducible repeat (first | refine blk_drewN ?_ _ | refine blk_drew ?_ | refine blk_alloc ?_ _)); refine blk_put (cs := #[.int .i64 0, .int .i64 0, .bool false]) ?_ 0 _ rfl; (with_reducible repeat (first | refine blk_drewN ?_ _ | refine blk_drew ?_ | refine blk_alloc ?_ _)); exact BK763.out⟩
                have n1_ : Aside0 (Below w.heap.size w (((w44.setCell ⟨gb763, 0, none⟩ (.int .i64 ((rd_T97 l0 x14_1).f0))).setCell ⟨gb763, 1, none⟩ (.int .i64 ((rd_T97 l0 x14_1).f1))).setCell ⟨gb763, 2, none⟩ (.bool ((rd_T97 l0 x14_1).f2)))) := ⟨by repeat (first | (with_reducible first | exact HB.out | apply below_alloc | apply pw_below_drewN | apply below_drew1 | refine below_set ?_ GE763.out) | exact HB.out)⟩
                (try clear BK763)
                (try clear HB)
                generalize (((w44.setCell ⟨gb763, 0, none⟩ (.int .i64 ((rd_T97 l0 x14_1).f0))).setCell ⟨gb763, 1, none⟩ (.int .i64 ((rd_T97 l0 x14_1).f1))).setCell ⟨gb763, 2, none⟩ (.bool ((rd_T97 l0 x14_1).f2))) = w46 at n0_ n1_ ⊢
                have BK763 := n0_
                have HB := n1_
                clear n0_ n1_
                have n0_ := Aside0.mk (blk_drew BK763.out)
                have n1_ := Aside0.mk (below_drew1 HB.out)
                clear BK763
                clear HB
                have BK763 := n0_
                have HB := n1_
                clear n0_ n1_
                have hq0_ : w46.cell? ⟨gb763, 0, none⟩ = some (.int .i64 ((rd_T97 l0 x14_1).f0)) := (blk_cell BK763.out 0).trans rfl
                have hq1_ : w46.cell? ⟨gb763, 1, none⟩ = some (.int .i64 ((rd_T97 l0 x14_1).f1)) := (blk_cell BK763.out 1).trans rfl
                have hq2_ : w46.cell? ⟨gb763, 2, none⟩ = some (.bool ((rd_T97 l0 x14_1).f2)) := (blk_cell BK763.out 2).trans rfl
                go_quiet ((first | (go_at_call 66; apply Calls.quiet_of; ((with_reducible refine (impl_InRange.calls ((rd_T97 l0 x14_1).f1) 1 96 false _ A7.out).mono ?_); exact fun _ _ h_ => ⟨h_.1, h_.2.out⟩))))
                have nBK763_ := Aside0.mk (blk_drewN (w := w46) BK763.out nq)
                have nHB_ := Aside0.mk (pw_below_drewN (W := w46) ⟨HB.out.os, HB.out.tape, HB.out.output, HB.out.size, HB.out.block⟩ nq)
                clear BK763 HB hq0_ hq1_ hq2_
                have BK763 := nBK763_
                have HB := nHB_
                clear nBK763_ nHB_
                generalize w46.drewN nq = w47 at BK763 HB ⊢
                try go_wp2
                go_ret3
                exact ⟨by first | rfl | (simp [errW_none, errW_some] <;> rfl) | (simp [*, errW_none, errW_some] <;> rfl), by repeat (first | (with_reducible first | exact HB.out | apply below_alloc | apply pw_below_drewN | apply below_drew1 | refine below_set ?_ GE763.out) | exact HB.out)⟩
            · rw [if_neg c6] at H
              exact absurd H (by simp)
          · rw [if_neg c5] at H
            exact absurd H (by simp)
        · rw [if_neg c4] at H
          have c4b0 : decide (x14_1 < (l0.length : Int)) = false := decide_eq_false c4
          clear c4
          by_cases c48 : 0 < (l0.length : Int)
          · rw [if_pos c48] at H
            have c48b0 : decide (0 < (l0.length : Int)) = true := decide_eq_true c48
            have c48b1 : decide (0 < l0.length) = true := decide_eq_true (by omega)
            clear c48
            simp only [Option.some.injEq, Prod.mk.injEq] at H
            obtain ⟨rfl, rfl, rfl⟩ := H
            have p761 : 0 ≤ (0 : Int) := (by omega)
            have q761 : 0 < (l0.length : Int) := of_decide_eq_true (by first | (with_reducible assumption) | assumption)
            obtain ⟨ad761, e761, hx761_0, hx761_1, hx761_2⟩ := at_T97 HR0.out 0 p761 q761
            cases e761
            have qi761 : (0 < l0.length) = True := eq_true (by omega)
            (try rw [show ((0 : Int)).toNat = 0 from rfl] at hx761_0)
            (try rw [show 0 * 3 = 0 from rfl] at hx761_0)
            (try rw [Addr.add_zero'] at hx761_0)
            (try rw [show ((0 : Int)).toNat = 0 from rfl] at hx761_1)
            (try rw [show 0 * 3 = 0 from rfl] at hx761_1)
            (try rw [Addr.add_zero'] at hx761_1)
            (try rw [show ((0 : Int)).toNat = 0 from rfl] at hx761_2)
            (try rw [show 0 * 3 = 0 from rfl] at hx761_2)
            (try rw [Addr.add_zero'] at hx761_2)
            replace hx761_0 := (HB.out.cell (World.block_lt_of_cell? w _ hx761_0)).trans hx761_0
            replace hx761_1 := (HB.out.cell (World.block_lt_of_cell? w _ hx761_1)).trans hx761_1
            replace hx761_2 := (HB.out.cell (World.block_lt_of_cell? w _ hx761_2)).trans hx761_2
            replace p761 := eq_true p761
            replace q761 := eq_true q761
            go_wp2
            go_ret3
            exact ⟨by first | rfl | (simp [errW_none, errW_some] <;> rfl) | (simp [*, errW_none, errW_some] <;> rfl), by repeat (first | (with_reducible first | exact HB.out | apply below_alloc | apply pw_below_drewN | apply below_drew1) | exact HB.out)⟩
          · rw [if_neg c48] at H
            exact absurd H (by simp)
  · replace c3 := Bool.eq_false_iff.mpr c3
    subst c3
    have H1 : (some (0, 0, false)) = some (r1, r2, r3) := by rw [if_neg (show ¬ (false = true) by decide)] at H; exact H
    clear H
    have H := H1
    clear H1
    simp only [Option.some.injEq, Prod.mk.injEq] at H
    obtain ⟨rfl, rfl, rfl⟩ := H
    go_enter Try.func59, Try.ntmps59
    go_wp2_with (first | ((with_reducible refine gate_callee (f := 66) rfl ?_); refine goesL_ (some 10) rfl rfl Try.func66 (by kernel_rfl) rfl #[.int .i64 (l0.length : Int), .int .i64 1, .int .i64 200] rfl (by (try simp only [List.map_toArray, List.map_cons, List.map_nil]); first | done | rfl | (simp only [List.length_drop, List.length_take]; rfl)) ?_; (with_reducible refine (impl_InRange.calls (l0.length : Int) 1 200 false _ A2.out).mono ?_); rintro e w' ⟨rfl, ⟨nd, rfl⟩⟩; refine ⟨_, rfl, ?_⟩))
    go_ret3
    exact ⟨by first | rfl | (simp [errW_none, errW_some] <;> rfl) | (simp [*, errW_none, errW_some] <;> rfl), by repeat (first | (with_reducible first | exact HB.out | apply below_alloc | apply pw_below_drewN | apply below_drew1) | exact HB.out)⟩

end Go.Proofs.Ytinbdgngpkbgcaa.F
