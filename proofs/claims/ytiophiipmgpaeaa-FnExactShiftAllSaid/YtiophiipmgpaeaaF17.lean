-- Written for this claim by the kit's print.py out of the translation, called by wip/tools/fprint.py. Lean checks it.
import Derived.Test.YtiophiipmgpaeaaF0
import Derived.Test.YtiophiipmgpaeaaF2
namespace Go.Proofs.Ytiophiipmgpaeaa.F
open Go.RowKit Go.Proofs.YtiophiipmgpaeaaW.PrintWords Go.Proofs.YtiophiipmgpaeaaW.PrintLast Go.Proofs.YtiophiipmgpaeaaW.PrintMore
attribute [local go_sem] max2_int min2_int max_two min_two max_three min_three max_four min_four   -- for this text's walks alone
set_option linter.unusedVariables false
set_option linter.unusedSimpArgs false

/-! ### spec_IsPerformance: function 84 -/
def spec_IsPerformance.l0 : Nat → List (S109) → Int → Option (Bool)
  | 0, _, _ => none
  | k + 1, x0, x3 => if x3 < (x0.length : Int) then (if 0 ≤ x3 then ((spec_l1In.f ((rd_T109 x0 x3).f0) 0 10000000).bind fun t186 => (if t186 = true then ((spec_l1In.f ((rd_T109 x0 x3).f1) 0 127).bind fun t188 => (if t188 = true then (if x3 > 0 then (if 0 ≤ (wrap64 (x3 - 1)) then (if (wrap64 (x3 - 1)) < (x0.length : Int) then (if ((rd_T109 x0 (wrap64 (x3 - 1))).f0) > ((rd_T109 x0 x3).f0) then (some false) else (if ((rd_T109 x0 (wrap64 (x3 - 1))).f0) = ((rd_T109 x0 x3).f0) then (if ((rd_T109 x0 (wrap64 (x3 - 1))).f1) > ((rd_T109 x0 x3).f1) then (some false) else (spec_IsPerformance.l0 k x0 (wrap64 (x3 + 1)))) else (spec_IsPerformance.l0 k x0 (wrap64 (x3 + 1))))) else (none)) else (none)) else (spec_IsPerformance.l0 k x0 (wrap64 (x3 + 1)))) else (some false))) else (some false))) else (none)) else (some (decide ((x0.length : Int) ≤ 60)))
def spec_IsPerformance.f (k : Nat) (l0 : List (S109)) : Option (Bool) := spec_IsPerformance.l0 k l0 0
theorem spec_IsPerformance.mono_l : ∀ k, (∀ y0 y1, LeO (spec_IsPerformance.l0 k y0 y1) (spec_IsPerformance.l0 (k + 1) y0 y1))
  | 0 => fun _ _ r h => by simp [spec_IsPerformance.l0] at h
  | k + 1 => by
    have ih0 := spec_IsPerformance.mono_l k
    · intro y0 y1
      unfold spec_IsPerformance.l0
      repeat' first
      | (with_reducible exact ih0 _ _)
      | (with_reducible exact LeO.refl _)
      | (with_reducible exact LeO.none _)
      | (with_reducible refine LeO.ite ?_ ?_)
      | (with_reducible refine LeO.bind ?_ (fun _ => ?_))
      | exact ih0 _ _
      | exact LeO.none _
      | refine LeO.ite ?_ ?_
      | refine LeO.bind ?_ (fun _ => ?_)
theorem spec_IsPerformance.mono : ∀ a0 k, LeO (spec_IsPerformance.f k a0) (spec_IsPerformance.f (k + 1) a0) := by
  intro a0 k
  have ih0 := spec_IsPerformance.mono_l k
  unfold spec_IsPerformance.f
  repeat' first
      | (with_reducible exact ih0 _ _)
      | (with_reducible exact LeO.refl _)
      | (with_reducible exact LeO.none _)
      | (with_reducible refine LeO.ite ?_ ?_)
      | (with_reducible refine LeO.bind ?_ (fun _ => ?_))
      | exact ih0 _ _
      | exact LeO.none _
      | refine LeO.ite ?_ ?_
      | refine LeO.bind ?_ (fun _ => ?_)
def spec_IsPerformance.T4 : Bool × List (List Nat × List Nat) := (true, [([], []), ([], []), ([0, 1], [0, 1]), ([2], [2]), ([3], [3]), ([4], [4]), ([5], [5]), ([6, 5], [6]), ([7], [7]), ([7], [7]), ([8, 9, 7], [7, 8, 9]), ([10, 7], [7, 10]), ([11, 7], [7, 11]), ([12, 7, 7], [7, 12]), ([13, 7], [7, 13]), ([7, 14], [7, 14]), ([15, 13], [15]), ([16], [16]), ([17, 16], [16, 17]), ([18, 16, 16], [16, 18]), ([19], [19]), ([19], [19]), ([21, 19], [19, 21]), ([20, 22, 19], [19, 20, 22]), ([23, 19], [19, 23]), ([24, 19], [19, 24]), ([19], [19]), ([19], [19]), ([26, 27, 19], [19, 26, 27]), ([28, 19], [19, 28]), ([29, 19], [19, 29]), ([25, 30, 19], [19, 25, 30]), ([31, 19, 19], [19, 31]), ([32], [32]), ([32], [32]), ([34, 32], [32, 34]), ([33, 35, 32], [32, 33, 35]), ([36, 32], [32, 36]), ([37, 32], [32, 37]), ([32], [32]), ([32], [32]), ([39, 40, 32], [32, 39, 40]), ([41, 32], [32, 41]), ([42, 32], [32, 42]), ([38, 43, 32], [32, 38, 43]), ([44, 32, 32], [32, 44]), ([45], [45]), ([45], [45]), ([47, 45], [45, 47]), ([46, 48, 45], [45, 46, 48]), ([49, 45], [45, 49]), ([50, 45], [45, 50]), ([45], [45]), ([45], [45]), ([52, 53, 45], [45, 52, 53]), ([54, 45], [45, 54]), ([55, 45], [45, 55]), ([51, 56, 45], [45, 51, 56]), ([45, 57, 32], [32, 45, 57]), ([32, 58, 19], [19, 32, 58]), ([19, 59, 16], [16, 19, 59]), ([16, 60], [16, 60])])
def spec_IsPerformance.B4 : List Nat := [0, 0, 3, 7, 15, 31, 63, 127, 255, 255, 1023, 2047, 4095, 8191, 16383, 32767, 65535, 131071, 262143, 524287, 1048575, 1048575, 3145727, 8388607, 16777215, 33554431, 1048575, 1048575, 202375167, 470810623, 1007681535, 2147483647, 4294967295, 8589934591, 8589934591, 25769803775, 68719476735, 137438953471, 274877906943, 8589934591, 8589934591, 1657857376255, 3856880631807, 8254927142911, 17592186044415, 35184372088831, 70368744177663, 70368744177663, 211106232532991, 562949953421311, 1125899906842623, 2251799813685247, 70368744177663, 70368744177663, 13581167626289151, 31595566135771135, 67624363154735103, 144115188075855871, 288230376151711743, 576460752303423487, 1152921504606846975, 2305843009213693951]
theorem spec_IsPerformance.tab4 : rtab .any (opsOf Try.f84 4) = spec_IsPerformance.T4 := by kernel_rfl
theorem spec_IsPerformance.bits4 : waitsOk spec_IsPerformance.T4.2 spec_IsPerformance.B4 = true := by kernel_rfl
set_option maxHeartbeats 8000000 in
set_option maxRecDepth 100000 in
theorem spec_IsPerformance.calls (k : Nat) (A0 : Option Addr) (c0 : Nat) (l0 : List (S109)) (r : Bool) (w : World) (hr0 : Kd.C k109 w A0 l0.length l0) (hc0 : l0.length ≤ c0) (h : spec_IsPerformance.f k l0 = some r) :
    Calls Try.prog 84 #[.slice A0 l0.length c0] w fun e w' => e = .returned (.bool r) ∧ Below w.heap.size w w' := by
  have HR0 := Aside0.mk hr0
  have HC0 := Aside0.mk hc0
  clear hr0 hc0
  have HB := Aside0.mk (Below.refl w.heap.size w)
  have H : (spec_IsPerformance.l0 k l0 0) = some r := h
  clear h
  have H' := Aside0.mk H
  clear H
  go_enter Try.func84, Try.ntmps84
  go_wp2
  go_loopg [3] k (fun kq v3 w' => ∃ (x3_1 : Int), v3 = .int .i64 x3_1 ∧ Aside0 (spec_IsPerformance.l0 kq l0 x3_1 = some r) ∧ Aside0 (kq ≤ k) ∧ Aside0 (Below w.heap.size w w'))
  case atStart => exact ⟨(0), (by first | rfl | (simp; done) | (simp [*]; done)), H', ⟨Nat.le_refl _⟩, ⟨by repeat (first | (with_reducible first | exact HB.out | apply below_alloc | apply pw_below_drewN | apply below_drew1) | exact HB.out)⟩⟩
  case round =>
    clear H'
    obtain ⟨x3_1, rfl, HA, HK1, HB⟩ := hrel
    cases gk with
    | zero => exact absurd HA.out (by simp [spec_IsPerformance.l0])
    | succ k1 =>
      have H := HA.out
      clear HA
      simp only [spec_IsPerformance.l0] at H
      by_cases c2 : x3_1 < (l0.length : Int)
      · rw [if_pos c2] at H
        have c2b0 : decide (x3_1 < (l0.length : Int)) = true := decide_eq_true c2
        clear c2
        by_cases c3 : 0 ≤ x3_1
        · rw [if_pos c3] at H
          have c3b0 : decide (0 ≤ x3_1) = true := decide_eq_true c3
          clear c3
          replace H := Option.bind_eq_some_iff.mp H
          obtain ⟨t186, A40, H⟩ := H
          replace H : (if t186 = true then ((spec_l1In.f ((rd_T109 l0 x3_1).f1) 0 127).bind fun t188 => (if t188 = true then (if x3_1 > 0 then (if 0 ≤ (wrap64 (x3_1 - 1)) then (if (wrap64 (x3_1 - 1)) < (l0.length : Int) then (if ((rd_T109 l0 (wrap64 (x3_1 - 1))).f0) > ((rd_T109 l0 x3_1).f0) then (some false) else (if ((rd_T109 l0 (wrap64 (x3_1 - 1))).f0) = ((rd_T109 l0 x3_1).f0) then (if ((rd_T109 l0 (wrap64 (x3_1 - 1))).f1) > ((rd_T109 l0 x3_1).f1) then (some false) else (spec_IsPerformance.l0 k1 l0 (wrap64 (x3_1 + 1)))) else (spec_IsPerformance.l0 k1 l0 (wrap64 (x3_1 + 1))))) else (none)) else (none)) else (spec_IsPerformance.l0 k1 l0 (wrap64 (x3_1 + 1)))) else (some false))) else (some false)) = some r := H
          have A4 := Aside0.mk A40
          clear A40
          by_cases c5 : t186 = true
          · subst c5
            have H1 : ((spec_l1In.f ((rd_T109 l0 x3_1).f1) 0 127).bind fun t188 => (if t188 = true then (if x3_1 > 0 then (if 0 ≤ (wrap64 (x3_1 - 1)) then (if (wrap64 (x3_1 - 1)) < (l0.length : Int) then (if ((rd_T109 l0 (wrap64 (x3_1 - 1))).f0) > ((rd_T109 l0 x3_1).f0) then (some false) else (if ((rd_T109 l0 (wrap64 (x3_1 - 1))).f0) = ((rd_T109 l0 x3_1).f0) then (if ((rd_T109 l0 (wrap64 (x3_1 - 1))).f1) > ((rd_T109 l0 x3_1).f1) then (some false) else (spec_IsPerformance.l0 k1 l0 (wrap64 (x3_1 + 1)))) else (spec_IsPerformance.l0 k1 l0 (wrap64 (x3_1 + 1))))) else (none)) else (none)) else (spec_IsPerformance.l0 k1 l0 (wrap64 (x3_1 + 1)))) else (some false))) = some r := by rw [if_pos rfl] at H; exact H
            clear H
            have H := H1
            clear H1
            replace H := Option.bind_eq_some_iff.mp H
            obtain ⟨t188, A60, H⟩ := H
            replace H : (if t188 = true then (if x3_1 > 0 then (if 0 ≤ (wrap64 (x3_1 - 1)) then (if (wrap64 (x3_1 - 1)) < (l0.length : Int) then (if ((rd_T109 l0 (wrap64 (x3_1 - 1))).f0) > ((rd_T109 l0 x3_1).f0) then (some false) else (if ((rd_T109 l0 (wrap64 (x3_1 - 1))).f0) = ((rd_T109 l0 x3_1).f0) then (if ((rd_T109 l0 (wrap64 (x3_1 - 1))).f1) > ((rd_T109 l0 x3_1).f1) then (some false) else (spec_IsPerformance.l0 k1 l0 (wrap64 (x3_1 + 1)))) else (spec_IsPerformance.l0 k1 l0 (wrap64 (x3_1 + 1))))) else (none)) else (none)) else (spec_IsPerformance.l0 k1 l0 (wrap64 (x3_1 + 1)))) else (some false)) = some r := H
            have A6 := Aside0.mk A60
            clear A60
            by_cases c7 : t188 = true
            · subst c7
              have H1 : (if x3_1 > 0 then (if 0 ≤ (wrap64 (x3_1 - 1)) then (if (wrap64 (x3_1 - 1)) < (l0.length : Int) then (if ((rd_T109 l0 (wrap64 (x3_1 - 1))).f0) > ((rd_T109 l0 x3_1).f0) then (some false) else (if ((rd_T109 l0 (wrap64 (x3_1 - 1))).f0) = ((rd_T109 l0 x3_1).f0) then (if ((rd_T109 l0 (wrap64 (x3_1 - 1))).f1) > ((rd_T109 l0 x3_1).f1) then (some false) else (spec_IsPerformance.l0 k1 l0 (wrap64 (x3_1 + 1)))) else (spec_IsPerformance.l0 k1 l0 (wrap64 (x3_1 + 1))))) else (none)) else (none)) else (spec_IsPerformance.l0 k1 l0 (wrap64 (x3_1 + 1)))) = some r := by rw [if_pos rfl] at H; exact H
              clear H
              have H := H1
              clear H1
              by_cases c8 : x3_1 > 0
              · rw [if_pos c8] at H
                have c8b0 : decide (0 < x3_1) = true := decide_eq_true c8
                clear c8
                obtain ⟨ji9, hji9⟩ : ∃ j_ : Int, (wrap64 (x3_1 - 1)) = j_ := ⟨_, rfl⟩
                replace H : (if 0 ≤ (ji9) then (if (ji9) < (l0.length : Int) then (if ((rd_T109 l0 (ji9)).f0) > ((rd_T109 l0 x3_1).f0) then (some false) else (if ((rd_T109 l0 (ji9)).f0) = ((rd_T109 l0 x3_1).f0) then (if ((rd_T109 l0 (ji9)).f1) > ((rd_T109 l0 x3_1).f1) then (some false) else (spec_IsPerformance.l0 k1 l0 (wrap64 (x3_1 + 1)))) else (spec_IsPerformance.l0 k1 l0 (wrap64 (x3_1 + 1))))) else (none)) else (none)) = some r := by first | (rw [hji9] at H; exact H) | (simp only [hji9] at H ⊢; exact H)
                (try rw [hji9] at A4)
                (try rw [hji9] at A6)
                have hji9w : (IntKind.i64.wrap (x3_1 - 1)) = ji9 := (i64_w _).trans hji9
                by_cases c10 : 0 ≤ (ji9)
                · rw [if_pos c10] at H
                  have c10b0 : decide (0 ≤ (ji9)) = true := decide_eq_true c10
                  clear c10
                  by_cases c11 : (ji9) < (l0.length : Int)
                  · rw [if_pos c11] at H
                    have c11b0 : decide ((ji9) < (l0.length : Int)) = true := decide_eq_true c11
                    clear c11
                    by_cases c12 : ((rd_T109 l0 (ji9)).f0) > ((rd_T109 l0 x3_1).f0)
                    · rw [if_pos c12] at H
                      have c12b0 : decide (((rd_T109 l0 x3_1).f0) < ((rd_T109 l0 (ji9)).f0)) = true := decide_eq_true c12
                      clear c12
                      obtain rfl := Option.some.inj H
                      try go_wp2
                      have n0_ := Aside0.mk (below_drew1 HB.out)
                      clear HB
                      have HB := n0_
                      clear n0_
                      have p185 : 0 ≤ (x3_1 : Int) := of_decide_eq_true (by first | (with_reducible assumption) | assumption)
                      have q185 : x3_1 < (l0.length : Int) := of_decide_eq_true (by first | (with_reducible assumption) | assumption)
                      obtain ⟨ad185, e185, hx185_0, hx185_1⟩ := at_T109 HR0.out x3_1 p185 q185
                      have hw185_1 := hx185_1
                      have hw185_0 := hx185_0
                      cases e185
                      replace hx185_0 := (HB.out.cell (World.block_lt_of_cell? w _ hx185_0)).trans hx185_0
                      replace hx185_1 := (HB.out.cell (World.block_lt_of_cell? w _ hx185_1)).trans hx185_1
                      replace p185 := eq_true p185
                      replace q185 := eq_true q185
                      have p187 : 0 ≤ (x3_1 : Int) := of_decide_eq_true (by first | (with_reducible assumption) | assumption)
                      have q187 : x3_1 < (l0.length : Int) := of_decide_eq_true (by first | (with_reducible assumption) | assumption)
                      obtain ⟨ad187, e187, hx187_0, hx187_1⟩ := at_T109 HR0.out x3_1 p187 q187
                      have hw187_1 := hx187_1
                      have hw187_0 := hx187_0
                      obtain rfl : ad185 = ad187 := (by injection e187)
                      replace hx187_0 := (HB.out.cell (World.block_lt_of_cell? w _ hx187_0)).trans hx187_0
                      replace hx187_1 := (HB.out.cell (World.block_lt_of_cell? w _ hx187_1)).trans hx187_1
                      replace p187 := eq_true p187
                      replace q187 := eq_true q187
                      have p189 : 0 ≤ ((ji9) : Int) := of_decide_eq_true (by first | (with_reducible assumption) | assumption)
                      have q189 : (ji9) < (l0.length : Int) := of_decide_eq_true (by first | (with_reducible assumption) | assumption)
                      obtain ⟨ad189, e189, hx189_0, hx189_1⟩ := at_T109 HR0.out (ji9) p189 q189
                      have hw189_1 := hx189_1
                      have hw189_0 := hx189_0
                      obtain rfl : ad185 = ad189 := (by injection e189)
                      replace hx189_0 := (HB.out.cell (World.block_lt_of_cell? w _ hx189_0)).trans hx189_0
                      replace hx189_1 := (HB.out.cell (World.block_lt_of_cell? w _ hx189_1)).trans hx189_1
                      replace p189 := eq_true p189
                      replace q189 := eq_true q189
                      have p190 : 0 ≤ (x3_1 : Int) := of_decide_eq_true (by first | (with_reducible assumption) | assumption)
                      have q190 : x3_1 < (l0.length : Int) := of_decide_eq_true (by first | (with_reducible assumption) | assumption)
                      obtain ⟨ad190, e190, hx190_0, hx190_1⟩ := at_T109 HR0.out x3_1 p190 q190
                      have hw190_1 := hx190_1
                      have hw190_0 := hx190_0
                      obtain rfl : ad185 = ad190 := (by injection e190)
                      replace hx190_0 := (HB.out.cell (World.block_lt_of_cell? w _ hx190_0)).trans hx190_0
                      replace hx190_1 := (HB.out.cell (World.block_lt_of_cell? w _ hx190_1)).trans hx190_1
                      replace p190 := eq_true p190
                      replace q190 := eq_true q190
                      have hq0_ : wr.cell? (ad185.add ((x3_1).toNat * 2)) = some (.int .i64 ((rd_T109 l0 x3_1).f0)) := ((HB.out.cell (World.block_lt_of_cell? w _ hw185_0)).trans hw185_0)
                      have hq1_ : wr.cell? ⟨(ad185.add ((x3_1).toNat * 2)).block, (ad185.add ((x3_1).toNat * 2)).off + 1, none⟩ = some (.int .i64 ((rd_T109 l0 x3_1).f1)) := ((HB.out.cell (World.block_lt_of_cell? w _ hw185_1)).trans hw185_1)
                      have hq2_ : wr.cell? (ad185.add ((x3_1).toNat * 2)) = some (.int .i64 ((rd_T109 l0 x3_1).f0)) := ((HB.out.cell (World.block_lt_of_cell? w _ hw187_0)).trans hw187_0)
                      have hq3_ : wr.cell? ⟨(ad185.add ((x3_1).toNat * 2)).block, (ad185.add ((x3_1).toNat * 2)).off + 1, none⟩ = some (.int .i64 ((rd_T109 l0 x3_1).f1)) := ((HB.out.cell (World.block_lt_of_cell? w _ hw187_1)).trans hw187_1)
                      have hq4_ : wr.cell? (ad185.add (((ji9)).toNat * 2)) = some (.int .i64 ((rd_T109 l0 (ji9)).f0)) := ((HB.out.cell (World.block_lt_of_cell? w _ hw189_0)).trans hw189_0)
                      have hq5_ : wr.cell? ⟨(ad185.add (((ji9)).toNat * 2)).block, (ad185.add (((ji9)).toNat * 2)).off + 1, none⟩ = some (.int .i64 ((rd_T109 l0 (ji9)).f1)) := ((HB.out.cell (World.block_lt_of_cell? w _ hw189_1)).trans hw189_1)
                      have hq6_ : wr.cell? (ad185.add ((x3_1).toNat * 2)) = some (.int .i64 ((rd_T109 l0 x3_1).f0)) := ((HB.out.cell (World.block_lt_of_cell? w _ hw190_0)).trans hw190_0)
                      have hq7_ : wr.cell? ⟨(ad185.add ((x3_1).toNat * 2)).block, (ad185.add ((x3_1).toNat * 2)).off + 1, none⟩ = some (.int .i64 ((rd_T109 l0 x3_1).f1)) := ((HB.out.cell (World.block_lt_of_cell? w _ hw190_1)).trans hw190_1)
                      go_quiet ((first | (go_at_call 80; apply Calls.quiet_of; ((with_reducible refine (spec_l1In.calls ((rd_T109 l0 x3_1).f0) 0 10000000 true _ A4.out).mono ?_); exact fun _ _ h_ => ⟨h_.1, h_.2.out⟩)) | (go_at_call 80; apply Calls.quiet_of; ((with_reducible refine (spec_l1In.calls ((rd_T109 l0 x3_1).f1) 0 127 true _ A6.out).mono ?_); exact fun _ _ h_ => ⟨h_.1, h_.2.out⟩))))
                      have nHB_ := Aside0.mk (pw_below_drewN (W := wr) ⟨HB.out.os, HB.out.tape, HB.out.output, HB.out.size, HB.out.block⟩ nq)
                      have nhx185_0_ : (wr.drewN nq).cell? _ = _ := hx185_0
                      have nhx185_1_ : (wr.drewN nq).cell? _ = _ := hx185_1
                      have nhx187_0_ : (wr.drewN nq).cell? _ = _ := hx187_0
                      have nhx187_1_ : (wr.drewN nq).cell? _ = _ := hx187_1
                      have nhx189_0_ : (wr.drewN nq).cell? _ = _ := hx189_0
                      have nhx189_1_ : (wr.drewN nq).cell? _ = _ := hx189_1
                      have nhx190_0_ : (wr.drewN nq).cell? _ = _ := hx190_0
                      have nhx190_1_ : (wr.drewN nq).cell? _ = _ := hx190_1
                      clear HB hx185_0 hx185_1 hx187_0 hx187_1 hx189_0 hx189_1 hx190_0 hx190_1 hq0_ hq1_ hq2_ hq3_ hq4_ hq5_ hq6_ hq7_
                      have HB := nHB_
                      have hx185_0 := nhx185_0_
                      have hx185_1 := nhx185_1_
                      have hx187_0 := nhx187_0_
                      have hx187_1 := nhx187_1_
                      have hx189_0 := nhx189_0_
                      have hx189_1 := nhx189_1_
                      have hx190_0 := nhx190_0_
                      have hx190_1 := nhx190_1_
                      clear nHB_ nhx185_0_ nhx185_1_ nhx187_0_ nhx187_1_ nhx189_0_ nhx189_1_ nhx190_0_ nhx190_1_
                      generalize wr.drewN nq = w13 at HB hx185_0 hx185_1 hx187_0 hx187_1 hx189_0 hx189_1 hx190_0 hx190_1 ⊢
                      try go_wp2
                      go_ret
                      exact ⟨by first | rfl | (simp [errW_none, errW_some] <;> rfl) | (simp only [← hji9]; first | rfl | (simp [errW_none, errW_some] <;> rfl)) | (simp [*, errW_none, errW_some] <;> rfl), by repeat (first | (with_reducible first | exact HB.out | apply below_alloc | apply pw_below_drewN | apply below_drew1) | exact HB.out)⟩
                    · rw [if_neg c12] at H
                      have c12b0 : decide (((rd_T109 l0 x3_1).f0) < ((rd_T109 l0 (ji9)).f0)) = false := decide_eq_false c12
                      clear c12
                      by_cases c14 : ((rd_T109 l0 (ji9)).f0) = ((rd_T109 l0 x3_1).f0)
                      · rw [if_pos c14] at H
                        have c14b0 : (((rd_T109 l0 (ji9)).f0) == ((rd_T109 l0 x3_1).f0)) = true := beq_iff_eq.mpr c14
                        have c14b1 : (((rd_T109 l0 (ji9)).f0) != ((rd_T109 l0 x3_1).f0)) = false := bne_eq_false_iff_eq.mpr c14
                        clear c14
                        by_cases c15 : ((rd_T109 l0 (ji9)).f1) > ((rd_T109 l0 x3_1).f1)
                        · rw [if_pos c15] at H
                          have c15b0 : decide (((rd_T109 l0 x3_1).f1) < ((rd_T109 l0 (ji9)).f1)) = true := decide_eq_true c15
                          clear c15
                          obtain rfl := Option.some.inj H
                          try go_wp2
                          have n0_ := Aside0.mk (below_drew1 HB.out)
                          clear HB
                          have HB := n0_
                          clear n0_
                          have p185 : 0 ≤ (x3_1 : Int) := of_decide_eq_true (by first | (with_reducible assumption) | assumption)
                          have q185 : x3_1 < (l0.length : Int) := of_decide_eq_true (by first | (with_reducible assumption) | assumption)
                          obtain ⟨ad185, e185, hx185_0, hx185_1⟩ := at_T109 HR0.out x3_1 p185 q185
                          have hw185_1 := hx185_1
                          have hw185_0 := hx185_0
                          cases e185
                          replace hx185_0 := (HB.out.cell (World.block_lt_of_cell? w _ hx185_0)).trans hx185_0
                          replace hx185_1 := (HB.out.cell (World.block_lt_of_cell? w _ hx185_1)).trans hx185_1
                          replace p185 := eq_true p185
                          replace q185 := eq_true q185
                          have p187 : 0 ≤ (x3_1 : Int) := of_decide_eq_true (by first | (with_reducible assumption) | assumption)
                          have q187 : x3_1 < (l0.length : Int) := of_decide_eq_true (by first | (with_reducible assumption) | assumption)
                          obtain ⟨ad187, e187, hx187_0, hx187_1⟩ := at_T109 HR0.out x3_1 p187 q187
                          have hw187_1 := hx187_1
                          have hw187_0 := hx187_0
                          obtain rfl : ad185 = ad187 := (by injection e187)
                          replace hx187_0 := (HB.out.cell (World.block_lt_of_cell? w _ hx187_0)).trans hx187_0
                          replace hx187_1 := (HB.out.cell (World.block_lt_of_cell? w _ hx187_1)).trans hx187_1
                          replace p187 := eq_true p187
                          replace q187 := eq_true q187
                          have p189 : 0 ≤ ((ji9) : Int) := of_decide_eq_true (by first | (with_reducible assumption) | assumption)
                          have q189 : (ji9) < (l0.length : Int) := of_decide_eq_true (by first | (with_reducible assumption) | assumption)
                          obtain ⟨ad189, e189, hx189_0, hx189_1⟩ := at_T109 HR0.out (ji9) p189 q189
                          have hw189_1 := hx189_1
                          have hw189_0 := hx189_0
                          obtain rfl : ad185 = ad189 := (by injection e189)
                          replace hx189_0 := (HB.out.cell (World.block_lt_of_cell? w _ hx189_0)).trans hx189_0
                          replace hx189_1 := (HB.out.cell (World.block_lt_of_cell? w _ hx189_1)).trans hx189_1
                          replace p189 := eq_true p189
                          replace q189 := eq_true q189
                          have p190 : 0 ≤ (x3_1 : Int) := of_decide_eq_true (by first | (with_reducible assumption) | assumption)
                          have q190 : x3_1 < (l0.length : Int) := of_decide_eq_true (by first | (with_reducible assumption) | assumption)
                          obtain ⟨ad190, e190, hx190_0, hx190_1⟩ := at_T109 HR0.out x3_1 p190 q190
                          have hw190_1 := hx190_1
                          have hw190_0 := hx190_0
                          obtain rfl : ad185 = ad190 := (by injection e190)
                          replace hx190_0 := (HB.out.cell (World.block_lt_of_cell? w _ hx190_0)).trans hx190_0
                          replace hx190_1 := (HB.out.cell (World.block_lt_of_cell? w _ hx190_1)).trans hx190_1
                          replace p190 := eq_true p190
                          replace q190 := eq_true q190
                          have p191 : 0 ≤ ((ji9) : Int) := of_decide_eq_true (by first | (with_reducible assumption) | assumption)
                          have q191 : (ji9) < (l0.length : Int) := of_decide_eq_true (by first | (with_reducible assumption) | assumption)
                          obtain ⟨ad191, e191, hx191_0, hx191_1⟩ := at_T109 HR0.out (ji9) p191 q191
                          have hw191_1 := hx191_1
                          have hw191_0 := hx191_0
                          obtain rfl : ad185 = ad191 := (by injection e191)
                          replace hx191_0 := (HB.out.cell (World.block_lt_of_cell? w _ hx191_0)).trans hx191_0
                          replace hx191_1 := (HB.out.cell (World.block_lt_of_cell? w _ hx191_1)).trans hx191_1
                          replace p191 := eq_true p191
                          replace q191 := eq_true q191
                          have p192 : 0 ≤ (x3_1 : Int) := of_decide_eq_true (by first | (with_reducible assumption) | assumption)
                          have q192 : x3_1 < (l0.length : Int) := of_decide_eq_true (by first | (with_reducible assumption) | assumption)
                          obtain ⟨ad192, e192, hx192_0, hx192_1⟩ := at_T109 HR0.out x3_1 p192 q192
                          have hw192_1 := hx192_1
                          have hw192_0 := hx192_0
                          obtain rfl : ad185 = ad192 := (by injection e192)
                          replace hx192_0 := (HB.out.cell (World.block_lt_of_cell? w _ hx192_0)).trans hx192_0
                          replace hx192_1 := (HB.out.cell (World.block_lt_of_cell? w _ hx192_1)).trans hx192_1
                          replace p192 := eq_true p192
                          replace q192 := eq_true q192
                          have p193 : 0 ≤ ((ji9) : Int) := of_decide_eq_true (by first | (with_reducible assumption) | assumption)
                          have q193 : (ji9) < (l0.length : Int) := of_decide_eq_true (by first | (with_reducible assumption) | assumption)
                          obtain ⟨ad193, e193, hx193_0, hx193_1⟩ := at_T109 HR0.out (ji9) p193 q193
                          have hw193_1 := hx193_1
                          have hw193_0 := hx193_0
                          obtain rfl : ad185 = ad193 := (by injection e193)
                          replace hx193_0 := (HB.out.cell (World.block_lt_of_cell? w _ hx193_0)).trans hx193_0
                          replace hx193_1 := (HB.out.cell (World.block_lt_of_cell? w _ hx193_1)).trans hx193_1
                          replace p193 := eq_true p193
                          replace q193 := eq_true q193
                          have p194 : 0 ≤ (x3_1 : Int) := of_decide_eq_true (by first | (with_reducible assumption) | assumption)
                          have q194 : x3_1 < (l0.length : Int) := of_decide_eq_true (by first | (with_reducible assumption) | assumption)
                          obtain ⟨ad194, e194, hx194_0, hx194_1⟩ := at_T109 HR0.out x3_1 p194 q194
                          have hw194_1 := hx194_1
                          have hw194_0 := hx194_0
                          obtain rfl : ad185 = ad194 := (by injection e194)
                          replace hx194_0 := (HB.out.cell (World.block_lt_of_cell? w _ hx194_0)).trans hx194_0
                          replace hx194_1 := (HB.out.cell (World.block_lt_of_cell? w _ hx194_1)).trans hx194_1
                          replace p194 := eq_true p194
                          replace q194 := eq_true q194
                          have hq0_ : wr.cell? (ad185.add ((x3_1).toNat * 2)) = some (.int .i64 ((rd_T109 l0 x3_1).f0)) := ((HB.out.cell (World.block_lt_of_cell? w _ hw185_0)).trans hw185_0)
                          have hq1_ : wr.cell? ⟨(ad185.add ((x3_1).toNat * 2)).block, (ad185.add ((x3_1).toNat * 2)).off + 1, none⟩ = some (.int .i64 ((rd_T109 l0 x3_1).f1)) := ((HB.out.cell (World.block_lt_of_cell? w _ hw185_1)).trans hw185_1)
                          have hq2_ : wr.cell? (ad185.add ((x3_1).toNat * 2)) = some (.int .i64 ((rd_T109 l0 x3_1).f0)) := ((HB.out.cell (World.block_lt_of_cell? w _ hw187_0)).trans hw187_0)
                          have hq3_ : wr.cell? ⟨(ad185.add ((x3_1).toNat * 2)).block, (ad185.add ((x3_1).toNat * 2)).off + 1, none⟩ = some (.int .i64 ((rd_T109 l0 x3_1).f1)) := ((HB.out.cell (World.block_lt_of_cell? w _ hw187_1)).trans hw187_1)
                          have hq4_ : wr.cell? (ad185.add (((ji9)).toNat * 2)) = some (.int .i64 ((rd_T109 l0 (ji9)).f0)) := ((HB.out.cell (World.block_lt_of_cell? w _ hw189_0)).trans hw189_0)
                          have hq5_ : wr.cell? ⟨(ad185.add (((ji9)).toNat * 2)).block, (ad185.add (((ji9)).toNat * 2)).off + 1, none⟩ = some (.int .i64 ((rd_T109 l0 (ji9)).f1)) := ((HB.out.cell (World.block_lt_of_cell? w _ hw189_1)).trans hw189_1)
                          have hq6_ : wr.cell? (ad185.add ((x3_1).toNat * 2)) = some (.int .i64 ((rd_T109 l0 x3_1).f0)) := ((HB.out.cell (World.block_lt_of_cell? w _ hw190_0)).trans hw190_0)
                          have hq7_ : wr.cell? ⟨(ad185.add ((x3_1).toNat * 2)).block, (ad185.add ((x3_1).toNat * 2)).off + 1, none⟩ = some (.int .i64 ((rd_T109 l0 x3_1).f1)) := ((HB.out.cell (World.block_lt_of_cell? w _ hw190_1)).trans hw190_1)
                          have hq8_ : wr.cell? (ad185.add (((ji9)).toNat * 2)) = some (.int .i64 ((rd_T109 l0 (ji9)).f0)) := ((HB.out.cell (World.block_lt_of_cell? w _ hw191_0)).trans hw191_0)
                          have hq9_ : wr.cell? ⟨(ad185.add (((ji9)).toNat * 2)).block, (ad185.add (((ji9)).toNat * 2)).off + 1, none⟩ = some (.int .i64 ((rd_T109 l0 (ji9)).f1)) := ((HB.out.cell (World.block_lt_of_cell? w _ hw191_1)).trans hw191_1)
                          have hq10_ : wr.cell? (ad185.add ((x3_1).toNat * 2)) = some (.int .i64 ((rd_T109 l0 x3_1).f0)) := ((HB.out.cell (World.block_lt_of_cell? w _ hw192_0)).trans hw192_0)
                          have hq11_ : wr.cell? ⟨(ad185.add ((x3_1).toNat * 2)).block, (ad185.add ((x3_1).toNat * 2)).off + 1, none⟩ = some (.int .i64 ((rd_T109 l0 x3_1).f1)) := ((HB.out.cell (World.block_lt_of_cell? w _ hw192_1)).trans hw192_1)
                          have hq12_ : wr.cell? (ad185.add (((ji9)).toNat * 2)) = some (.int .i64 ((rd_T109 l0 (ji9)).f0)) := ((HB.out.cell (World.block_lt_of_cell? w _ hw193_0)).trans hw193_0)
                          have hq13_ : wr.cell? ⟨(ad185.add (((ji9)).toNat * 2)).block, (ad185.add (((ji9)).toNat * 2)).off + 1, none⟩ = some (.int .i64 ((rd_T109 l0 (ji9)).f1)) := ((HB.out.cell (World.block_lt_of_cell? w _ hw193_1)).trans hw193_1)
                          have hq14_ : wr.cell? (ad185.add ((x3_1).toNat * 2)) = some (.int .i64 ((rd_T109 l0 x3_1).f0)) := ((HB.out.cell (World.block_lt_of_cell? w _ hw194_0)).trans hw194_0)
                          have hq15_ : wr.cell? ⟨(ad185.add ((x3_1).toNat * 2)).block, (ad185.add ((x3_1).toNat * 2)).off + 1, none⟩ = some (.int .i64 ((rd_T109 l0 x3_1).f1)) := ((HB.out.cell (World.block_lt_of_cell? w _ hw194_1)).trans hw194_1)
                          go_quiet ((first | (go_at_call 80; apply Calls.quiet_of; ((with_reducible refine (spec_l1In.calls ((rd_T109 l0 x3_1).f0) 0 10000000 true _ A4.out).mono ?_); exact fun _ _ h_ => ⟨h_.1, h_.2.out⟩)) | (go_at_call 80; apply Calls.quiet_of; ((with_reducible refine (spec_l1In.calls ((rd_T109 l0 x3_1).f1) 0 127 true _ A6.out).mono ?_); exact fun _ _ h_ => ⟨h_.1, h_.2.out⟩))))
                          have nHB_ := Aside0.mk (pw_below_drewN (W := wr) ⟨HB.out.os, HB.out.tape, HB.out.output, HB.out.size, HB.out.block⟩ nq)
                          have nhx185_0_ : (wr.drewN nq).cell? _ = _ := hx185_0
                          have nhx185_1_ : (wr.drewN nq).cell? _ = _ := hx185_1
                          have nhx187_0_ : (wr.drewN nq).cell? _ = _ := hx187_0
                          have nhx187_1_ : (wr.drewN nq).cell? _ = _ := hx187_1
                          have nhx189_0_ : (wr.drewN nq).cell? _ = _ := hx189_0
                          have nhx189_1_ : (wr.drewN nq).cell? _ = _ := hx189_1
                          have nhx190_0_ : (wr.drewN nq).cell? _ = _ := hx190_0
                          have nhx190_1_ : (wr.drewN nq).cell? _ = _ := hx190_1
                          have nhx191_0_ : (wr.drewN nq).cell? _ = _ := hx191_0
                          have nhx191_1_ : (wr.drewN nq).cell? _ = _ := hx191_1
                          have nhx192_0_ : (wr.drewN nq).cell? _ = _ := hx192_0
                          have nhx192_1_ : (wr.drewN nq).cell? _ = _ := hx192_1
                          have nhx193_0_ : (wr.drewN nq).cell? _ = _ := hx193_0
                          have nhx193_1_ : (wr.drewN nq).cell? _ = _ := hx193_1
                          have nhx194_0_ : (wr.drewN nq).cell? _ = _ := hx194_0
                          have nhx194_1_ : (wr.drewN nq).cell? _ = _ := hx194_1
                          clear HB hx185_0 hx185_1 hx187_0 hx187_1 hx189_0 hx189_1 hx190_0 hx190_1 hx191_0 hx191_1 hx192_0 hx192_1 hx193_0 hx193_1 hx194_0 hx194_1 hq0_ hq1_ hq2_ hq3_ hq4_ hq5_ hq6_ hq7_ hq8_ hq9_ hq10_ hq11_ hq12_ hq13_ hq14_ hq15_
                          have HB := nHB_
                          have hx185_0 := nhx185_0_
                          have hx185_1 := nhx185_1_
                          have hx187_0 := nhx187_0_
                          have hx187_1 := nhx187_1_
                          have hx189_0 := nhx189_0_
                          have hx189_1 := nhx189_1_
                          have hx190_0 := nhx190_0_
                          have hx190_1 := nhx190_1_
                          have hx191_0 := nhx191_0_
                          have hx191_1 := nhx191_1_
                          have hx192_0 := nhx192_0_
                          have hx192_1 := nhx192_1_
                          have hx193_0 := nhx193_0_
                          have hx193_1 := nhx193_1_
                          have hx194_0 := nhx194_0_
                          have hx194_1 := nhx194_1_
                          clear nHB_ nhx185_0_ nhx185_1_ nhx187_0_ nhx187_1_ nhx189_0_ nhx189_1_ nhx190_0_ nhx190_1_ nhx191_0_ nhx191_1_ nhx192_0_ nhx192_1_ nhx193_0_ nhx193_1_ nhx194_0_ nhx194_1_
                          generalize wr.drewN nq = w16 at HB hx185_0 hx185_1 hx187_0 hx187_1 hx189_0 hx189_1 hx190_0 hx190_1 hx191_0 hx191_1 hx192_0 hx192_1 hx193_0 hx193_1 hx194_0 hx194_1 ⊢
                          try go_wp2
                          go_ret
                          exact ⟨by first | rfl | (simp [errW_none, errW_some] <;> rfl) | (simp only [← hji9]; first | rfl | (simp [errW_none, errW_some] <;> rfl)) | (simp [*, errW_none, errW_some] <;> rfl), by repeat (first | (with_reducible first | exact HB.out | apply below_alloc | apply pw_below_drewN | apply below_drew1) | exact HB.out)⟩
                        · rw [if_neg c15] at H
                          have c15b0 : decide (((rd_T109 l0 x3_1).f1) < ((rd_T109 l0 (ji9)).f1)) = false := decide_eq_false c15
                          clear c15
                          have H' := Aside0.mk H
                          clear H
                          try go_wp2
                          have n0_ := Aside0.mk (below_drew1 HB.out)
                          clear HB
                          have HB := n0_
                          clear n0_
                          have p185 : 0 ≤ (x3_1 : Int) := of_decide_eq_true (by first | (with_reducible assumption) | assumption)
                          have q185 : x3_1 < (l0.length : Int) := of_decide_eq_true (by first | (with_reducible assumption) | assumption)
                          obtain ⟨ad185, e185, hx185_0, hx185_1⟩ := at_T109 HR0.out x3_1 p185 q185
                          have hw185_1 := hx185_1
                          have hw185_0 := hx185_0
                          cases e185
                          replace hx185_0 := (HB.out.cell (World.block_lt_of_cell? w _ hx185_0)).trans hx185_0
                          replace hx185_1 := (HB.out.cell (World.block_lt_of_cell? w _ hx185_1)).trans hx185_1
                          replace p185 := eq_true p185
                          replace q185 := eq_true q185
                          have p187 : 0 ≤ (x3_1 : Int) := of_decide_eq_true (by first | (with_reducible assumption) | assumption)
                          have q187 : x3_1 < (l0.length : Int) := of_decide_eq_true (by first | (with_reducible assumption) | assumption)
                          obtain ⟨ad187, e187, hx187_0, hx187_1⟩ := at_T109 HR0.out x3_1 p187 q187
                          have hw187_1 := hx187_1
                          have hw187_0 := hx187_0
                          obtain rfl : ad185 = ad187 := (by injection e187)
                          replace hx187_0 := (HB.out.cell (World.block_lt_of_cell? w _ hx187_0)).trans hx187_0
                          replace hx187_1 := (HB.out.cell (World.block_lt_of_cell? w _ hx187_1)).trans hx187_1
                          replace p187 := eq_true p187
                          replace q187 := eq_true q187
                          have p189 : 0 ≤ ((ji9) : Int) := of_decide_eq_true (by first | (with_reducible assumption) | assumption)
                          have q189 : (ji9) < (l0.length : Int) := of_decide_eq_true (by first | (with_reducible assumption) | assumption)
                          obtain ⟨ad189, e189, hx189_0, hx189_1⟩ := at_T109 HR0.out (ji9) p189 q189
                          have hw189_1 := hx189_1
                          have hw189_0 := hx189_0
                          obtain rfl : ad185 = ad189 := (by injection e189)
                          replace hx189_0 := (HB.out.cell (World.block_lt_of_cell? w _ hx189_0)).trans hx189_0
                          replace hx189_1 := (HB.out.cell (World.block_lt_of_cell? w _ hx189_1)).trans hx189_1
                          replace p189 := eq_true p189
                          replace q189 := eq_true q189
                          have p190 : 0 ≤ (x3_1 : Int) := of_decide_eq_true (by first | (with_reducible assumption) | assumption)
                          have q190 : x3_1 < (l0.length : Int) := of_decide_eq_true (by first | (with_reducible assumption) | assumption)
                          obtain ⟨ad190, e190, hx190_0, hx190_1⟩ := at_T109 HR0.out x3_1 p190 q190
                          have hw190_1 := hx190_1
                          have hw190_0 := hx190_0
                          obtain rfl : ad185 = ad190 := (by injection e190)
                          replace hx190_0 := (HB.out.cell (World.block_lt_of_cell? w _ hx190_0)).trans hx190_0
                          replace hx190_1 := (HB.out.cell (World.block_lt_of_cell? w _ hx190_1)).trans hx190_1
                          replace p190 := eq_true p190
                          replace q190 := eq_true q190
                          have p191 : 0 ≤ ((ji9) : Int) := of_decide_eq_true (by first | (with_reducible assumption) | assumption)
                          have q191 : (ji9) < (l0.length : Int) := of_decide_eq_true (by first | (with_reducible assumption) | assumption)
                          obtain ⟨ad191, e191, hx191_0, hx191_1⟩ := at_T109 HR0.out (ji9) p191 q191
                          have hw191_1 := hx191_1
                          have hw191_0 := hx191_0
                          obtain rfl : ad185 = ad191 := (by injection e191)
                          replace hx191_0 := (HB.out.cell (World.block_lt_of_cell? w _ hx191_0)).trans hx191_0
                          replace hx191_1 := (HB.out.cell (World.block_lt_of_cell? w _ hx191_1)).trans hx191_1
                          replace p191 := eq_true p191
                          replace q191 := eq_true q191
                          have p192 : 0 ≤ (x3_1 : Int) := of_decide_eq_true (by first | (with_reducible assumption) | assumption)
                          have q192 : x3_1 < (l0.length : Int) := of_decide_eq_true (by first | (with_reducible assumption) | assumption)
                          obtain ⟨ad192, e192, hx192_0, hx192_1⟩ := at_T109 HR0.out x3_1 p192 q192
                          have hw192_1 := hx192_1
                          have hw192_0 := hx192_0
                          obtain rfl : ad185 = ad192 := (by injection e192)
                          replace hx192_0 := (HB.out.cell (World.block_lt_of_cell? w _ hx192_0)).trans hx192_0
                          replace hx192_1 := (HB.out.cell (World.block_lt_of_cell? w _ hx192_1)).trans hx192_1
                          replace p192 := eq_true p192
                          replace q192 := eq_true q192
                          have p193 : 0 ≤ ((ji9) : Int) := of_decide_eq_true (by first | (with_reducible assumption) | assumption)
                          have q193 : (ji9) < (l0.length : Int) := of_decide_eq_true (by first | (with_reducible assumption) | assumption)
                          obtain ⟨ad193, e193, hx193_0, hx193_1⟩ := at_T109 HR0.out (ji9) p193 q193
                          have hw193_1 := hx193_1
                          have hw193_0 := hx193_0
                          obtain rfl : ad185 = ad193 := (by injection e193)
                          replace hx193_0 := (HB.out.cell (World.block_lt_of_cell? w _ hx193_0)).trans hx193_0
                          replace hx193_1 := (HB.out.cell (World.block_lt_of_cell? w _ hx193_1)).trans hx193_1
                          replace p193 := eq_true p193
                          replace q193 := eq_true q193
                          have p194 : 0 ≤ (x3_1 : Int) := of_decide_eq_true (by first | (with_reducible assumption) | assumption)
                          have q194 : x3_1 < (l0.length : Int) := of_decide_eq_true (by first | (with_reducible assumption) | assumption)
                          obtain ⟨ad194, e194, hx194_0, hx194_1⟩ := at_T109 HR0.out x3_1 p194 q194
                          have hw194_1 := hx194_1
                          have hw194_0 := hx194_0
                          obtain rfl : ad185 = ad194 := (by injection e194)
                          replace hx194_0 := (HB.out.cell (World.block_lt_of_cell? w _ hx194_0)).trans hx194_0
                          replace hx194_1 := (HB.out.cell (World.block_lt_of_cell? w _ hx194_1)).trans hx194_1
                          replace p194 := eq_true p194
                          replace q194 := eq_true q194
                          have hq0_ : wr.cell? (ad185.add ((x3_1).toNat * 2)) = some (.int .i64 ((rd_T109 l0 x3_1).f0)) := ((HB.out.cell (World.block_lt_of_cell? w _ hw185_0)).trans hw185_0)
                          have hq1_ : wr.cell? ⟨(ad185.add ((x3_1).toNat * 2)).block, (ad185.add ((x3_1).toNat * 2)).off + 1, none⟩ = some (.int .i64 ((rd_T109 l0 x3_1).f1)) := ((HB.out.cell (World.block_lt_of_cell? w _ hw185_1)).trans hw185_1)
                          have hq2_ : wr.cell? (ad185.add ((x3_1).toNat * 2)) = some (.int .i64 ((rd_T109 l0 x3_1).f0)) := ((HB.out.cell (World.block_lt_of_cell? w _ hw187_0)).trans hw187_0)
                          have hq3_ : wr.cell? ⟨(ad185.add ((x3_1).toNat * 2)).block, (ad185.add ((x3_1).toNat * 2)).off + 1, none⟩ = some (.int .i64 ((rd_T109 l0 x3_1).f1)) := ((HB.out.cell (World.block_lt_of_cell? w _ hw187_1)).trans hw187_1)
                          have hq4_ : wr.cell? (ad185.add (((ji9)).toNat * 2)) = some (.int .i64 ((rd_T109 l0 (ji9)).f0)) := ((HB.out.cell (World.block_lt_of_cell? w _ hw189_0)).trans hw189_0)
                          have hq5_ : wr.cell? ⟨(ad185.add (((ji9)).toNat * 2)).block, (ad185.add (((ji9)).toNat * 2)).off + 1, none⟩ = some (.int .i64 ((rd_T109 l0 (ji9)).f1)) := ((HB.out.cell (World.block_lt_of_cell? w _ hw189_1)).trans hw189_1)
                          have hq6_ : wr.cell? (ad185.add ((x3_1).toNat * 2)) = some (.int .i64 ((rd_T109 l0 x3_1).f0)) := ((HB.out.cell (World.block_lt_of_cell? w _ hw190_0)).trans hw190_0)
                          have hq7_ : wr.cell? ⟨(ad185.add ((x3_1).toNat * 2)).block, (ad185.add ((x3_1).toNat * 2)).off + 1, none⟩ = some (.int .i64 ((rd_T109 l0 x3_1).f1)) := ((HB.out.cell (World.block_lt_of_cell? w _ hw190_1)).trans hw190_1)
                          have hq8_ : wr.cell? (ad185.add (((ji9)).toNat * 2)) = some (.int .i64 ((rd_T109 l0 (ji9)).f0)) := ((HB.out.cell (World.block_lt_of_cell? w _ hw191_0)).trans hw191_0)
                          have hq9_ : wr.cell? ⟨(ad185.add (((ji9)).toNat * 2)).block, (ad185.add (((ji9)).toNat * 2)).off + 1, none⟩ = some (.int .i64 ((rd_T109 l0 (ji9)).f1)) := ((HB.out.cell (World.block_lt_of_cell? w _ hw191_1)).trans hw191_1)
                          have hq10_ : wr.cell? (ad185.add ((x3_1).toNat * 2)) = some (.int .i64 ((rd_T109 l0 x3_1).f0)) := ((HB.out.cell (World.block_lt_of_cell? w _ hw192_0)).trans hw192_0)
                          have hq11_ : wr.cell? ⟨(ad185.add ((x3_1).toNat * 2)).block, (ad185.add ((x3_1).toNat * 2)).off + 1, none⟩ = some (.int .i64 ((rd_T109 l0 x3_1).f1)) := ((HB.out.cell (World.block_lt_of_cell? w _ hw192_1)).trans hw192_1)
                          have hq12_ : wr.cell? (ad185.add (((ji9)).toNat * 2)) = some (.int .i64 ((rd_T109 l0 (ji9)).f0)) := ((HB.out.cell (World.block_lt_of_cell? w _ hw193_0)).trans hw193_0)
                          have hq13_ : wr.cell? ⟨(ad185.add (((ji9)).toNat * 2)).block, (ad185.add (((ji9)).toNat * 2)).off + 1, none⟩ = some (.int .i64 ((rd_T109 l0 (ji9)).f1)) := ((HB.out.cell (World.block_lt_of_cell? w _ hw193_1)).trans hw193_1)
                          have hq14_ : wr.cell? (ad185.add ((x3_1).toNat * 2)) = some (.int .i64 ((rd_T109 l0 x3_1).f0)) := ((HB.out.cell (World.block_lt_of_cell? w _ hw194_0)).trans hw194_0)
                          have hq15_ : wr.cell? ⟨(ad185.add ((x3_1).toNat * 2)).block, (ad185.add ((x3_1).toNat * 2)).off + 1, none⟩ = some (.int .i64 ((rd_T109 l0 x3_1).f1)) := ((HB.out.cell (World.block_lt_of_cell? w _ hw194_1)).trans hw194_1)
                          go_quiet ((first | (go_at_call 80; apply Calls.quiet_of; ((with_reducible refine (spec_l1In.calls ((rd_T109 l0 x3_1).f0) 0 10000000 true _ A4.out).mono ?_); exact fun _ _ h_ => ⟨h_.1, h_.2.out⟩)) | (go_at_call 80; apply Calls.quiet_of; ((with_reducible refine (spec_l1In.calls ((rd_T109 l0 x3_1).f1) 0 127 true _ A6.out).mono ?_); exact fun _ _ h_ => ⟨h_.1, h_.2.out⟩))))
                          have nHB_ := Aside0.mk (pw_below_drewN (W := wr) ⟨HB.out.os, HB.out.tape, HB.out.output, HB.out.size, HB.out.block⟩ nq)
                          have nhx185_0_ : (wr.drewN nq).cell? _ = _ := hx185_0
                          have nhx185_1_ : (wr.drewN nq).cell? _ = _ := hx185_1
                          have nhx187_0_ : (wr.drewN nq).cell? _ = _ := hx187_0
                          have nhx187_1_ : (wr.drewN nq).cell? _ = _ := hx187_1
                          have nhx189_0_ : (wr.drewN nq).cell? _ = _ := hx189_0
                          have nhx189_1_ : (wr.drewN nq).cell? _ = _ := hx189_1
                          have nhx190_0_ : (wr.drewN nq).cell? _ = _ := hx190_0
                          have nhx190_1_ : (wr.drewN nq).cell? _ = _ := hx190_1
                          have nhx191_0_ : (wr.drewN nq).cell? _ = _ := hx191_0
                          have nhx191_1_ : (wr.drewN nq).cell? _ = _ := hx191_1
                          have nhx192_0_ : (wr.drewN nq).cell? _ = _ := hx192_0
                          have nhx192_1_ : (wr.drewN nq).cell? _ = _ := hx192_1
                          have nhx193_0_ : (wr.drewN nq).cell? _ = _ := hx193_0
                          have nhx193_1_ : (wr.drewN nq).cell? _ = _ := hx193_1
                          have nhx194_0_ : (wr.drewN nq).cell? _ = _ := hx194_0
                          have nhx194_1_ : (wr.drewN nq).cell? _ = _ := hx194_1
                          clear HB hx185_0 hx185_1 hx187_0 hx187_1 hx189_0 hx189_1 hx190_0 hx190_1 hx191_0 hx191_1 hx192_0 hx192_1 hx193_0 hx193_1 hx194_0 hx194_1 hq0_ hq1_ hq2_ hq3_ hq4_ hq5_ hq6_ hq7_ hq8_ hq9_ hq10_ hq11_ hq12_ hq13_ hq14_ hq15_
                          have HB := nHB_
                          have hx185_0 := nhx185_0_
                          have hx185_1 := nhx185_1_
                          have hx187_0 := nhx187_0_
                          have hx187_1 := nhx187_1_
                          have hx189_0 := nhx189_0_
                          have hx189_1 := nhx189_1_
                          have hx190_0 := nhx190_0_
                          have hx190_1 := nhx190_1_
                          have hx191_0 := nhx191_0_
                          have hx191_1 := nhx191_1_
                          have hx192_0 := nhx192_0_
                          have hx192_1 := nhx192_1_
                          have hx193_0 := nhx193_0_
                          have hx193_1 := nhx193_1_
                          have hx194_0 := nhx194_0_
                          have hx194_1 := nhx194_1_
                          clear nHB_ nhx185_0_ nhx185_1_ nhx187_0_ nhx187_1_ nhx189_0_ nhx189_1_ nhx190_0_ nhx190_1_ nhx191_0_ nhx191_1_ nhx192_0_ nhx192_1_ nhx193_0_ nhx193_1_ nhx194_0_ nhx194_1_
                          generalize wr.drewN nq = w17 at HB hx185_0 hx185_1 hx187_0 hx187_1 hx189_0 hx189_1 hx190_0 hx190_1 hx191_0 hx191_1 hx192_0 hx192_1 hx193_0 hx193_1 hx194_0 hx194_1 ⊢
                          try go_wp2
                          go_roundg k1
                          case measure => have := HK1.out; omega
                          case rel => exact ⟨(wrap64 (x3_1 + 1)), (by first | rfl | (simp; done) | (simp [*]; done)), H', ⟨by have := HK1.out; omega⟩, ⟨by repeat (first | (with_reducible first | exact HB.out | apply below_alloc | apply pw_below_drewN | apply below_drew1) | exact HB.out)⟩⟩
                      · rw [if_neg c14] at H
                        have c14b0 : (((rd_T109 l0 (ji9)).f0) == ((rd_T109 l0 x3_1).f0)) = false := beq_eq_false_iff_ne.mpr c14
                        have c14b1 : (((rd_T109 l0 (ji9)).f0) != ((rd_T109 l0 x3_1).f0)) = true := bne_iff_ne.mpr c14
                        have H' := Aside0.mk H
                        clear H
                        try go_wp2
                        have n0_ := Aside0.mk (below_drew1 HB.out)
                        clear HB
                        have HB := n0_
                        clear n0_
                        have p185 : 0 ≤ (x3_1 : Int) := of_decide_eq_true (by first | (with_reducible assumption) | assumption)
                        have q185 : x3_1 < (l0.length : Int) := of_decide_eq_true (by first | (with_reducible assumption) | assumption)
                        obtain ⟨ad185, e185, hx185_0, hx185_1⟩ := at_T109 HR0.out x3_1 p185 q185
                        have hw185_1 := hx185_1
                        have hw185_0 := hx185_0
                        cases e185
                        replace hx185_0 := (HB.out.cell (World.block_lt_of_cell? w _ hx185_0)).trans hx185_0
                        replace hx185_1 := (HB.out.cell (World.block_lt_of_cell? w _ hx185_1)).trans hx185_1
                        replace p185 := eq_true p185
                        replace q185 := eq_true q185
                        have p187 : 0 ≤ (x3_1 : Int) := of_decide_eq_true (by first | (with_reducible assumption) | assumption)
                        have q187 : x3_1 < (l0.length : Int) := of_decide_eq_true (by first | (with_reducible assumption) | assumption)
                        obtain ⟨ad187, e187, hx187_0, hx187_1⟩ := at_T109 HR0.out x3_1 p187 q187
                        have hw187_1 := hx187_1
                        have hw187_0 := hx187_0
                        obtain rfl : ad185 = ad187 := (by injection e187)
                        replace hx187_0 := (HB.out.cell (World.block_lt_of_cell? w _ hx187_0)).trans hx187_0
                        replace hx187_1 := (HB.out.cell (World.block_lt_of_cell? w _ hx187_1)).trans hx187_1
                        replace p187 := eq_true p187
                        replace q187 := eq_true q187
                        have p189 : 0 ≤ ((ji9) : Int) := of_decide_eq_true (by first | (with_reducible assumption) | assumption)
                        have q189 : (ji9) < (l0.length : Int) := of_decide_eq_true (by first | (with_reducible assumption) | assumption)
                        obtain ⟨ad189, e189, hx189_0, hx189_1⟩ := at_T109 HR0.out (ji9) p189 q189
                        have hw189_1 := hx189_1
                        have hw189_0 := hx189_0
                        obtain rfl : ad185 = ad189 := (by injection e189)
                        replace hx189_0 := (HB.out.cell (World.block_lt_of_cell? w _ hx189_0)).trans hx189_0
                        replace hx189_1 := (HB.out.cell (World.block_lt_of_cell? w _ hx189_1)).trans hx189_1
                        replace p189 := eq_true p189
                        replace q189 := eq_true q189
                        have p190 : 0 ≤ (x3_1 : Int) := of_decide_eq_true (by first | (with_reducible assumption) | assumption)
                        have q190 : x3_1 < (l0.length : Int) := of_decide_eq_true (by first | (with_reducible assumption) | assumption)
                        obtain ⟨ad190, e190, hx190_0, hx190_1⟩ := at_T109 HR0.out x3_1 p190 q190
                        have hw190_1 := hx190_1
                        have hw190_0 := hx190_0
                        obtain rfl : ad185 = ad190 := (by injection e190)
                        replace hx190_0 := (HB.out.cell (World.block_lt_of_cell? w _ hx190_0)).trans hx190_0
                        replace hx190_1 := (HB.out.cell (World.block_lt_of_cell? w _ hx190_1)).trans hx190_1
                        replace p190 := eq_true p190
                        replace q190 := eq_true q190
                        have p191 : 0 ≤ ((ji9) : Int) := of_decide_eq_true (by first | (with_reducible assumption) | assumption)
                        have q191 : (ji9) < (l0.length : Int) := of_decide_eq_true (by first | (with_reducible assumption) | assumption)
                        obtain ⟨ad191, e191, hx191_0, hx191_1⟩ := at_T109 HR0.out (ji9) p191 q191
                        have hw191_1 := hx191_1
                        have hw191_0 := hx191_0
                        obtain rfl : ad185 = ad191 := (by injection e191)
                        replace hx191_0 := (HB.out.cell (World.block_lt_of_cell? w _ hx191_0)).trans hx191_0
                        replace hx191_1 := (HB.out.cell (World.block_lt_of_cell? w _ hx191_1)).trans hx191_1
                        replace p191 := eq_true p191
                        replace q191 := eq_true q191
                        have p192 : 0 ≤ (x3_1 : Int) := of_decide_eq_true (by first | (with_reducible assumption) | assumption)
                        have q192 : x3_1 < (l0.length : Int) := of_decide_eq_true (by first | (with_reducible assumption) | assumption)
                        obtain ⟨ad192, e192, hx192_0, hx192_1⟩ := at_T109 HR0.out x3_1 p192 q192
                        have hw192_1 := hx192_1
                        have hw192_0 := hx192_0
                        obtain rfl : ad185 = ad192 := (by injection e192)
                        replace hx192_0 := (HB.out.cell (World.block_lt_of_cell? w _ hx192_0)).trans hx192_0
                        replace hx192_1 := (HB.out.cell (World.block_lt_of_cell? w _ hx192_1)).trans hx192_1
                        replace p192 := eq_true p192
                        replace q192 := eq_true q192
                        have hq0_ : wr.cell? (ad185.add ((x3_1).toNat * 2)) = some (.int .i64 ((rd_T109 l0 x3_1).f0)) := ((HB.out.cell (World.block_lt_of_cell? w _ hw185_0)).trans hw185_0)
                        have hq1_ : wr.cell? ⟨(ad185.add ((x3_1).toNat * 2)).block, (ad185.add ((x3_1).toNat * 2)).off + 1, none⟩ = some (.int .i64 ((rd_T109 l0 x3_1).f1)) := ((HB.out.cell (World.block_lt_of_cell? w _ hw185_1)).trans hw185_1)
                        have hq2_ : wr.cell? (ad185.add ((x3_1).toNat * 2)) = some (.int .i64 ((rd_T109 l0 x3_1).f0)) := ((HB.out.cell (World.block_lt_of_cell? w _ hw187_0)).trans hw187_0)
                        have hq3_ : wr.cell? ⟨(ad185.add ((x3_1).toNat * 2)).block, (ad185.add ((x3_1).toNat * 2)).off + 1, none⟩ = some (.int .i64 ((rd_T109 l0 x3_1).f1)) := ((HB.out.cell (World.block_lt_of_cell? w _ hw187_1)).trans hw187_1)
                        have hq4_ : wr.cell? (ad185.add (((ji9)).toNat * 2)) = some (.int .i64 ((rd_T109 l0 (ji9)).f0)) := ((HB.out.cell (World.block_lt_of_cell? w _ hw189_0)).trans hw189_0)
                        have hq5_ : wr.cell? ⟨(ad185.add (((ji9)).toNat * 2)).block, (ad185.add (((ji9)).toNat * 2)).off + 1, none⟩ = some (.int .i64 ((rd_T109 l0 (ji9)).f1)) := ((HB.out.cell (World.block_lt_of_cell? w _ hw189_1)).trans hw189_1)
                        have hq6_ : wr.cell? (ad185.add ((x3_1).toNat * 2)) = some (.int .i64 ((rd_T109 l0 x3_1).f0)) := ((HB.out.cell (World.block_lt_of_cell? w _ hw190_0)).trans hw190_0)
                        have hq7_ : wr.cell? ⟨(ad185.add ((x3_1).toNat * 2)).block, (ad185.add ((x3_1).toNat * 2)).off + 1, none⟩ = some (.int .i64 ((rd_T109 l0 x3_1).f1)) := ((HB.out.cell (World.block_lt_of_cell? w _ hw190_1)).trans hw190_1)
                        have hq8_ : wr.cell? (ad185.add (((ji9)).toNat * 2)) = some (.int .i64 ((rd_T109 l0 (ji9)).f0)) := ((HB.out.cell (World.block_lt_of_cell? w _ hw191_0)).trans hw191_0)
                        have hq9_ : wr.cell? ⟨(ad185.add (((ji9)).toNat * 2)).block, (ad185.add (((ji9)).toNat * 2)).off + 1, none⟩ = some (.int .i64 ((rd_T109 l0 (ji9)).f1)) := ((HB.out.cell (World.block_lt_of_cell? w _ hw191_1)).trans hw191_1)
                        have hq10_ : wr.cell? (ad185.add ((x3_1).toNat * 2)) = some (.int .i64 ((rd_T109 l0 x3_1).f0)) := ((HB.out.cell (World.block_lt_of_cell? w _ hw192_0)).trans hw192_0)
                        have hq11_ : wr.cell? ⟨(ad185.add ((x3_1).toNat * 2)).block, (ad185.add ((x3_1).toNat * 2)).off + 1, none⟩ = some (.int .i64 ((rd_T109 l0 x3_1).f1)) := ((HB.out.cell (World.block_lt_of_cell? w _ hw192_1)).trans hw192_1)
                        go_quiet ((first | (go_at_call 80; apply Calls.quiet_of; ((with_reducible refine (spec_l1In.calls ((rd_T109 l0 x3_1).f0) 0 10000000 true _ A4.out).mono ?_); exact fun _ _ h_ => ⟨h_.1, h_.2.out⟩)) | (go_at_call 80; apply Calls.quiet_of; ((with_reducible refine (spec_l1In.calls ((rd_T109 l0 x3_1).f1) 0 127 true _ A6.out).mono ?_); exact fun _ _ h_ => ⟨h_.1, h_.2.out⟩))))
                        have nHB_ := Aside0.mk (pw_below_drewN (W := wr) ⟨HB.out.os, HB.out.tape, HB.out.output, HB.out.size, HB.out.block⟩ nq)
                        have nhx185_0_ : (wr.drewN nq).cell? _ = _ := hx185_0
                        have nhx185_1_ : (wr.drewN nq).cell? _ = _ := hx185_1
                        have nhx187_0_ : (wr.drewN nq).cell? _ = _ := hx187_0
                        have nhx187_1_ : (wr.drewN nq).cell? _ = _ := hx187_1
                        have nhx189_0_ : (wr.drewN nq).cell? _ = _ := hx189_0
                        have nhx189_1_ : (wr.drewN nq).cell? _ = _ := hx189_1
                        have nhx190_0_ : (wr.drewN nq).cell? _ = _ := hx190_0
                        have nhx190_1_ : (wr.drewN nq).cell? _ = _ := hx190_1
                        have nhx191_0_ : (wr.drewN nq).cell? _ = _ := hx191_0
                        have nhx191_1_ : (wr.drewN nq).cell? _ = _ := hx191_1
                        have nhx192_0_ : (wr.drewN nq).cell? _ = _ := hx192_0
                        have nhx192_1_ : (wr.drewN nq).cell? _ = _ := hx192_1
                        clear HB hx185_0 hx185_1 hx187_0 hx187_1 hx189_0 hx189_1 hx190_0 hx190_1 hx191_0 hx191_1 hx192_0 hx192_1 hq0_ hq1_ hq2_ hq3_ hq4_ hq5_ hq6_ hq7_ hq8_ hq9_ hq10_ hq11_
                        have HB := nHB_
                        have hx185_0 := nhx185_0_
                        have hx185_1 := nhx185_1_
                        have hx187_0 := nhx187_0_
                        have hx187_1 := nhx187_1_
                        have hx189_0 := nhx189_0_
                        have hx189_1 := nhx189_1_
                        have hx190_0 := nhx190_0_
                        have hx190_1 := nhx190_1_
                        have hx191_0 := nhx191_0_
                        have hx191_1 := nhx191_1_
                        have hx192_0 := nhx192_0_
                        have hx192_1 := nhx192_1_
                        clear nHB_ nhx185_0_ nhx185_1_ nhx187_0_ nhx187_1_ nhx189_0_ nhx189_1_ nhx190_0_ nhx190_1_ nhx191_0_ nhx191_1_ nhx192_0_ nhx192_1_
                        generalize wr.drewN nq = w18 at HB hx185_0 hx185_1 hx187_0 hx187_1 hx189_0 hx189_1 hx190_0 hx190_1 hx191_0 hx191_1 hx192_0 hx192_1 ⊢
                        try go_wp2
                        go_roundg k1
                        case measure => have := HK1.out; omega
                        case rel => exact ⟨(wrap64 (x3_1 + 1)), (by first | rfl | (simp; done) | (simp [*]; done)), H', ⟨by have := HK1.out; omega⟩, ⟨by repeat (first | (with_reducible first | exact HB.out | apply below_alloc | apply pw_below_drewN | apply below_drew1) | exact HB.out)⟩⟩
                  · rw [if_neg c11] at H
                    exact absurd H (by simp)
                · rw [if_neg c10] at H
                  exact absurd H (by simp)
              · rw [if_neg c8] at H
                have c8b0 : decide (0 < x3_1) = false := decide_eq_false c8
                clear c8
                have H' := Aside0.mk H
                clear H
                try go_wp2
                have n0_ := Aside0.mk (below_drew1 HB.out)
                clear HB
                have HB := n0_
                clear n0_
                have p185 : 0 ≤ (x3_1 : Int) := of_decide_eq_true (by first | (with_reducible assumption) | assumption)
                have q185 : x3_1 < (l0.length : Int) := of_decide_eq_true (by first | (with_reducible assumption) | assumption)
                obtain ⟨ad185, e185, hx185_0, hx185_1⟩ := at_T109 HR0.out x3_1 p185 q185
                have hw185_1 := hx185_1
                have hw185_0 := hx185_0
                cases e185
                replace hx185_0 := (HB.out.cell (World.block_lt_of_cell? w _ hx185_0)).trans hx185_0
                replace hx185_1 := (HB.out.cell (World.block_lt_of_cell? w _ hx185_1)).trans hx185_1
                replace p185 := eq_true p185
                replace q185 := eq_true q185
                have p187 : 0 ≤ (x3_1 : Int) := of_decide_eq_true (by first | (with_reducible assumption) | assumption)
                have q187 : x3_1 < (l0.length : Int) := of_decide_eq_true (by first | (with_reducible assumption) | assumption)
                obtain ⟨ad187, e187, hx187_0, hx187_1⟩ := at_T109 HR0.out x3_1 p187 q187
                have hw187_1 := hx187_1
                have hw187_0 := hx187_0
                obtain rfl : ad185 = ad187 := (by injection e187)
                replace hx187_0 := (HB.out.cell (World.block_lt_of_cell? w _ hx187_0)).trans hx187_0
                replace hx187_1 := (HB.out.cell (World.block_lt_of_cell? w _ hx187_1)).trans hx187_1
                replace p187 := eq_true p187
                replace q187 := eq_true q187
                have hq0_ : wr.cell? (ad185.add ((x3_1).toNat * 2)) = some (.int .i64 ((rd_T109 l0 x3_1).f0)) := ((HB.out.cell (World.block_lt_of_cell? w _ hw185_0)).trans hw185_0)
                have hq1_ : wr.cell? ⟨(ad185.add ((x3_1).toNat * 2)).block, (ad185.add ((x3_1).toNat * 2)).off + 1, none⟩ = some (.int .i64 ((rd_T109 l0 x3_1).f1)) := ((HB.out.cell (World.block_lt_of_cell? w _ hw185_1)).trans hw185_1)
                have hq2_ : wr.cell? (ad185.add ((x3_1).toNat * 2)) = some (.int .i64 ((rd_T109 l0 x3_1).f0)) := ((HB.out.cell (World.block_lt_of_cell? w _ hw187_0)).trans hw187_0)
                have hq3_ : wr.cell? ⟨(ad185.add ((x3_1).toNat * 2)).block, (ad185.add ((x3_1).toNat * 2)).off + 1, none⟩ = some (.int .i64 ((rd_T109 l0 x3_1).f1)) := ((HB.out.cell (World.block_lt_of_cell? w _ hw187_1)).trans hw187_1)
                go_quiet ((first | (go_at_call 80; apply Calls.quiet_of; ((with_reducible refine (spec_l1In.calls ((rd_T109 l0 x3_1).f0) 0 10000000 true _ A4.out).mono ?_); exact fun _ _ h_ => ⟨h_.1, h_.2.out⟩)) | (go_at_call 80; apply Calls.quiet_of; ((with_reducible refine (spec_l1In.calls ((rd_T109 l0 x3_1).f1) 0 127 true _ A6.out).mono ?_); exact fun _ _ h_ => ⟨h_.1, h_.2.out⟩))))
                have nHB_ := Aside0.mk (pw_below_drewN (W := wr) ⟨HB.out.os, HB.out.tape, HB.out.output, HB.out.size, HB.out.block⟩ nq)
                have nhx185_0_ : (wr.drewN nq).cell? _ = _ := hx185_0
                have nhx185_1_ : (wr.drewN nq).cell? _ = _ := hx185_1
                have nhx187_0_ : (wr.drewN nq).cell? _ = _ := hx187_0
                have nhx187_1_ : (wr.drewN nq).cell? _ = _ := hx187_1
                clear HB hx185_0 hx185_1 hx187_0 hx187_1 hq0_ hq1_ hq2_ hq3_
                have HB := nHB_
                have hx185_0 := nhx185_0_
                have hx185_1 := nhx185_1_
                have hx187_0 := nhx187_0_
                have hx187_1 := nhx187_1_
                clear nHB_ nhx185_0_ nhx185_1_ nhx187_0_ nhx187_1_
                generalize wr.drewN nq = w19 at HB hx185_0 hx185_1 hx187_0 hx187_1 ⊢
                try go_wp2
                go_roundg k1
                case measure => have := HK1.out; omega
                case rel => exact ⟨(wrap64 (x3_1 + 1)), (by first | rfl | (simp; done) | (simp [*]; done)), H', ⟨by have := HK1.out; omega⟩, ⟨by repeat (first | (with_reducible first | exact HB.out | apply below_alloc | apply pw_below_drewN | apply below_drew1) | exact HB.out)⟩⟩
            · replace c7 := Bool.eq_false_iff.mpr c7
              subst c7
              have H1 : (some false) = some r := by rw [if_neg (show ¬ (false = true) by decide)] at H; exact H
              clear H
              have H := H1
              clear H1
              obtain rfl := Option.some.inj H
              try go_wp2
              have n0_ := Aside0.mk (below_drew1 HB.out)
              clear HB
              have HB := n0_
              clear n0_
              have p185 : 0 ≤ (x3_1 : Int) := of_decide_eq_true (by first | (with_reducible assumption) | assumption)
              have q185 : x3_1 < (l0.length : Int) := of_decide_eq_true (by first | (with_reducible assumption) | assumption)
              obtain ⟨ad185, e185, hx185_0, hx185_1⟩ := at_T109 HR0.out x3_1 p185 q185
              have hw185_1 := hx185_1
              have hw185_0 := hx185_0
              cases e185
              replace hx185_0 := (HB.out.cell (World.block_lt_of_cell? w _ hx185_0)).trans hx185_0
              replace hx185_1 := (HB.out.cell (World.block_lt_of_cell? w _ hx185_1)).trans hx185_1
              replace p185 := eq_true p185
              replace q185 := eq_true q185
              have p187 : 0 ≤ (x3_1 : Int) := of_decide_eq_true (by first | (with_reducible assumption) | assumption)
              have q187 : x3_1 < (l0.length : Int) := of_decide_eq_true (by first | (with_reducible assumption) | assumption)
              obtain ⟨ad187, e187, hx187_0, hx187_1⟩ := at_T109 HR0.out x3_1 p187 q187
              have hw187_1 := hx187_1
              have hw187_0 := hx187_0
              obtain rfl : ad185 = ad187 := (by injection e187)
              replace hx187_0 := (HB.out.cell (World.block_lt_of_cell? w _ hx187_0)).trans hx187_0
              replace hx187_1 := (HB.out.cell (World.block_lt_of_cell? w _ hx187_1)).trans hx187_1
              replace p187 := eq_true p187
              replace q187 := eq_true q187
              have hq0_ : wr.cell? (ad185.add ((x3_1).toNat * 2)) = some (.int .i64 ((rd_T109 l0 x3_1).f0)) := ((HB.out.cell (World.block_lt_of_cell? w _ hw185_0)).trans hw185_0)
              have hq1_ : wr.cell? ⟨(ad185.add ((x3_1).toNat * 2)).block, (ad185.add ((x3_1).toNat * 2)).off + 1, none⟩ = some (.int .i64 ((rd_T109 l0 x3_1).f1)) := ((HB.out.cell (World.block_lt_of_cell? w _ hw185_1)).trans hw185_1)
              have hq2_ : wr.cell? (ad185.add ((x3_1).toNat * 2)) = some (.int .i64 ((rd_T109 l0 x3_1).f0)) := ((HB.out.cell (World.block_lt_of_cell? w _ hw187_0)).trans hw187_0)
              have hq3_ : wr.cell? ⟨(ad185.add ((x3_1).toNat * 2)).block, (ad185.add ((x3_1).toNat * 2)).off + 1, none⟩ = some (.int .i64 ((rd_T109 l0 x3_1).f1)) := ((HB.out.cell (World.block_lt_of_cell? w _ hw187_1)).trans hw187_1)
              go_quiet ((first | (go_at_call 80; apply Calls.quiet_of; ((with_reducible refine (spec_l1In.calls ((rd_T109 l0 x3_1).f0) 0 10000000 true _ A4.out).mono ?_); exact fun _ _ h_ => ⟨h_.1, h_.2.out⟩)) | (go_at_call 80; apply Calls.quiet_of; ((with_reducible refine (spec_l1In.calls ((rd_T109 l0 x3_1).f1) 0 127 false _ A6.out).mono ?_); exact fun _ _ h_ => ⟨h_.1, h_.2.out⟩))))
              have nHB_ := Aside0.mk (pw_below_drewN (W := wr) ⟨HB.out.os, HB.out.tape, HB.out.output, HB.out.size, HB.out.block⟩ nq)
              have nhx185_0_ : (wr.drewN nq).cell? _ = _ := hx185_0
              have nhx185_1_ : (wr.drewN nq).cell? _ = _ := hx185_1
              have nhx187_0_ : (wr.drewN nq).cell? _ = _ := hx187_0
              have nhx187_1_ : (wr.drewN nq).cell? _ = _ := hx187_1
              clear HB hx185_0 hx185_1 hx187_0 hx187_1 hq0_ hq1_ hq2_ hq3_
              have HB := nHB_
              have hx185_0 := nhx185_0_
              have hx185_1 := nhx185_1_
              have hx187_0 := nhx187_0_
              have hx187_1 := nhx187_1_
              clear nHB_ nhx185_0_ nhx185_1_ nhx187_0_ nhx187_1_
              generalize wr.drewN nq = w20 at HB hx185_0 hx185_1 hx187_0 hx187_1 ⊢
              try go_wp2
              go_ret
              exact ⟨by first | rfl | (simp [errW_none, errW_some] <;> rfl) | (simp [*, errW_none, errW_some] <;> rfl), by repeat (first | (with_reducible first | exact HB.out | apply below_alloc | apply pw_below_drewN | apply below_drew1) | exact HB.out)⟩
          · replace c5 := Bool.eq_false_iff.mpr c5
            subst c5
            have H1 : (some false) = some r := by rw [if_neg (show ¬ (false = true) by decide)] at H; exact H
            clear H
            have H := H1
            clear H1
            obtain rfl := Option.some.inj H
            try go_wp2
            have n0_ := Aside0.mk (below_drew1 HB.out)
            clear HB
            have HB := n0_
            clear n0_
            have p185 : 0 ≤ (x3_1 : Int) := of_decide_eq_true (by first | (with_reducible assumption) | assumption)
            have q185 : x3_1 < (l0.length : Int) := of_decide_eq_true (by first | (with_reducible assumption) | assumption)
            obtain ⟨ad185, e185, hx185_0, hx185_1⟩ := at_T109 HR0.out x3_1 p185 q185
            have hw185_1 := hx185_1
            have hw185_0 := hx185_0
            cases e185
            replace hx185_0 := (HB.out.cell (World.block_lt_of_cell? w _ hx185_0)).trans hx185_0
            replace hx185_1 := (HB.out.cell (World.block_lt_of_cell? w _ hx185_1)).trans hx185_1
            replace p185 := eq_true p185
            replace q185 := eq_true q185
            have hq0_ : wr.cell? (ad185.add ((x3_1).toNat * 2)) = some (.int .i64 ((rd_T109 l0 x3_1).f0)) := ((HB.out.cell (World.block_lt_of_cell? w _ hw185_0)).trans hw185_0)
            have hq1_ : wr.cell? ⟨(ad185.add ((x3_1).toNat * 2)).block, (ad185.add ((x3_1).toNat * 2)).off + 1, none⟩ = some (.int .i64 ((rd_T109 l0 x3_1).f1)) := ((HB.out.cell (World.block_lt_of_cell? w _ hw185_1)).trans hw185_1)
            go_quiet ((first | (go_at_call 80; apply Calls.quiet_of; ((with_reducible refine (spec_l1In.calls ((rd_T109 l0 x3_1).f0) 0 10000000 false _ A4.out).mono ?_); exact fun _ _ h_ => ⟨h_.1, h_.2.out⟩))))
            have nHB_ := Aside0.mk (pw_below_drewN (W := wr) ⟨HB.out.os, HB.out.tape, HB.out.output, HB.out.size, HB.out.block⟩ nq)
            have nhx185_0_ : (wr.drewN nq).cell? _ = _ := hx185_0
            have nhx185_1_ : (wr.drewN nq).cell? _ = _ := hx185_1
            clear HB hx185_0 hx185_1 hq0_ hq1_
            have HB := nHB_
            have hx185_0 := nhx185_0_
            have hx185_1 := nhx185_1_
            clear nHB_ nhx185_0_ nhx185_1_
            generalize wr.drewN nq = w21 at HB hx185_0 hx185_1 ⊢
            try go_wp2
            go_ret
            exact ⟨by first | rfl | (simp [errW_none, errW_some] <;> rfl) | (simp [*, errW_none, errW_some] <;> rfl), by repeat (first | (with_reducible first | exact HB.out | apply below_alloc | apply pw_below_drewN | apply below_drew1) | exact HB.out)⟩
        · rw [if_neg c3] at H
          exact absurd H (by simp)
      · rw [if_neg c2] at H
        have c2b0 : decide (x3_1 < (l0.length : Int)) = false := decide_eq_false c2
        clear c2
        obtain rfl := Option.some.inj H
        go_wp2
        go_ret
        exact ⟨by first | rfl | (simp [errW_none, errW_some] <;> rfl) | (simp [*, errW_none, errW_some] <;> rfl), by repeat (first | (with_reducible first | exact HB.out | apply below_alloc | apply pw_below_drewN | apply below_drew1) | exact HB.out)⟩

end Go.Proofs.Ytiophiipmgpaeaa.F
