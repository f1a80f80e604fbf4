/- FnExactPlayScore, part 5 of 7: texts of the claim, joined into one file. -/
import Derived.Test.YtiophiipmgpaeaaZFnExactPlayScore4

namespace Go.Proofs.Ytiophiipmgpaeaa.F
open Go.RowKit Go.Proofs.YtiophiipmgpaeaaW.PrintWords Go.Proofs.YtiophiipmgpaeaaW.PrintLast Go.Proofs.YtiophiipmgpaeaaW.PrintMore
attribute [local go_sem] max2_int min2_int max_two min_two max_three min_three max_four min_four
set_option linter.unusedVariables false
set_option linter.unusedSimpArgs false
def impl_IsScore.l0 : Nat → List (S118) → List (S118) → Int → Int → Option (Bool)
 | 0, _, _, _, _ => none
 | k + 1, x0, x5, x6, x7 => if x7 < x6 then (if 0 ≤ x7 then (if x7 < (x5.length : Int) then ((impl_InRange.f ((rd_T118 x5 x7).f0) 0 2000).bind fun t569 => (if t569 = true then ((impl_InRange.f ((rd_T118 x5 x7).f1) 1 96).bind fun t570 => (if t570 = true then ((impl_InRange.f ((rd_T118 x5 x7).f2) 21 108).bind fun t571 => (if t571 = true then ((impl_InRange.f ((rd_T118 x5 x7).f3) 1 4).bind fun t572 => (if t572 = true then (if x7 > 0 then (if 0 ≤ (wrap64 (x7 - 1)) then (if (wrap64 (x7 - 1)) < (x0.length : Int) then ((impl_eventOrder.f k ((rd_T118 x0 (wrap64 (x7 - 1))).f0) ((rd_T118 x0 (wrap64 (x7 - 1))).f1) ((rd_T118 x0 (wrap64 (x7 - 1))).f2) ((rd_T118 x0 (wrap64 (x7 - 1))).f3) ((rd_T118 x5 x7).f0) ((rd_T118 x5 x7).f1) ((rd_T118 x5 x7).f2) ((rd_T118 x5 x7).f3)).bind fun t574 => (if t574 ≥ 0 then (some false) else (impl_IsScore.l0 k x0 x5 x6 (wrap64 (x7 + 1))))) else (none)) else (none)) else (impl_IsScore.l0 k x0 x5 x6 (wrap64 (x7 + 1)))) else (some false))) else (some false))) else (some false))) else (some false))) else (none)) else (none)) else (some (decide ((x0.length : Int) ≤ 40)))
def impl_IsScore.f (k : Nat) (l0 : List (S118)) : Option (Bool) := impl_IsScore.l0 k l0 l0 (l0.length : Int) 0
def impl_IsScore.T4 : Bool × List (List Nat × List Nat) := (true, [([], []), ([0], [0]), ([1], [1]), ([2], [2]), ([3, 2], [3]), ([4], [4]), ([5, 4], [4, 5]), ([6, 4, 4], [4, 6]), ([7, 4], [4, 7]), ([4, 8], [4, 8]), ([9, 7], [9]), ([10], [10]), ([11, 10], [10, 11]), ([12, 10, 10], [10, 12]), ([13, 10], [10, 13]), ([10, 14], [10, 14]), ([15, 13], [15]), ([16], [16]), ([17, 16], [16, 17]), ([18, 16, 16], [16, 18]), ([19, 16], [16, 19]), ([16, 20], [16, 20]), ([21, 19], [21]), ([22], [22]), ([23, 22], [22, 23]), ([24, 22, 22], [22, 24]), ([25], [25]), ([25], [25]), ([27, 25], [25, 27]), ([26, 28, 25], [25, 26, 28]), ([29, 25], [25, 29]), ([25], [25]), ([30, 31, 25, 25], [25, 30, 31]), ([32, 25], [25, 32]), ([25, 33, 22], [22, 25, 33]), ([22, 34], [22, 34])])
def impl_IsScore.B4 : List Nat := [0, 1, 3, 7, 15, 31, 63, 127, 255, 511, 1023, 2047, 4095, 8191, 16383, 32767, 65535, 131071, 262143, 524287, 1048575, 2097151, 4194303, 8388607, 16777215, 33554431, 67108863, 67108863, 201326591, 536870911, 1073741823, 67108863, 4294967295, 8589934591, 17179869183, 34359738367]
theorem impl_IsScore.tab4 : rtab .any (opsOf Try.f97 4) = impl_IsScore.T4 := by kernel_rfl
theorem impl_IsScore.bits4 : waitsOk impl_IsScore.T4.2 impl_IsScore.B4 = true := by kernel_rfl
set_option maxHeartbeats 8000000 in
set_option maxRecDepth 100000 in
theorem impl_IsScore.calls (k : Nat) (A0 : Option Addr) (c0 : Nat) (l0 : List (S118)) (r : Bool) (w : World) (hr0 : Kd.C k118 w A0 l0.length l0) (hc0 : l0.length ≤ c0) (h : impl_IsScore.f k l0 = some r) :
  Calls Try.prog 97 #[.slice A0 l0.length c0] w fun e w' => e = .returned (.bool r) ∧ Below w.heap.size w w' := by
 have hu118 := Try.underlying118
 have HR0 := sk_' hr0
 have HC0 := sk_' hc0
 clear hr0 hc0
 have HB := sk_' (Below.refl w.heap.size w)
 have H : (impl_IsScore.l0 k l0 l0 (l0.length : Int) 0) = some r := h
 clear h
 have H' := sk_' H
 clear H
 go_enter Try.func97, Try.ntmps97
 go_wp2
 go_loopg [7] k (fun kq v7 w' => ∃ (x7_1 : Int), v7 = .int .i64 x7_1 ∧ Aside0 (impl_IsScore.l0 kq l0 l0 (l0.length : Int) x7_1 = some r) ∧ Aside0 (kq ≤ k) ∧ Aside0 (Below w.heap.size w w'))
 case atStart => exact ⟨(0), rfl, H', ⟨Nat.le_refl _⟩, ⟨bm HB⟩⟩
 case round =>
  clear H'
  obtain ⟨x7_1, rfl, HA, HK1, HB⟩ := hrel
  cases gk with
  | zero => exact absurd HA.out (by simp [impl_IsScore.l0])
  | succ k1 =>
   have H := HA.out
   clear HA
   simp only [impl_IsScore.l0] at H
   by_cases c2 : x7_1 < (l0.length : Int)
   ·
    rw [if_pos c2] at H
    have c2b0 : decide (x7_1 < (l0.length : Int)) = true := decide_eq_true c2
    clear c2
    by_cases c3 : 0 ≤ x7_1
    ·
     rw [if_pos c3] at H
     have c3b0 : decide (0 ≤ x7_1) = true := decide_eq_true c3
     clear c3
     by_cases c4 : x7_1 < (l0.length : Int)
     ·
      rw [if_pos c4] at H
      have c4b0 : decide (x7_1 < (l0.length : Int)) = true := decide_eq_true c4
      clear c4
      replace H := bs_' H
      obtain ⟨t569, A50, H⟩ := H
      try dsimp only at H
      have A5 := sk_' A50
      clear A50
      by_cases c6 : t569 = true
      ·
       subst c6
       rw [if_pos rfl] at H
       replace H := bs_' H
       obtain ⟨t570, A70, H⟩ := H
       try dsimp only at H
       have A7 := sk_' A70
       clear A70
       by_cases c8 : t570 = true
       ·
        subst c8
        rw [if_pos rfl] at H
        replace H := bs_' H
        obtain ⟨t571, A90, H⟩ := H
        try dsimp only at H
        have A9 := sk_' A90
        clear A90
        by_cases c10 : t571 = true
        ·
         subst c10
         rw [if_pos rfl] at H
         replace H := bs_' H
         obtain ⟨t572, A110, H⟩ := H
         try dsimp only at H
         have A11 := sk_' A110
         clear A110
         by_cases c12 : t572 = true
         ·
          subst c12
          rw [if_pos rfl] at H
          by_cases c13 : x7_1 > 0
          ·
           rw [if_pos c13] at H
           have c13b0 : decide (0 < x7_1) = true := decide_eq_true c13
           clear c13
           obtain ⟨ji14, hji14⟩ : ∃ j_ : Int, (wrap64 (x7_1 - 1)) = j_ := ⟨_, rfl⟩
           replace H : (if 0 ≤ (ji14) then (if (ji14) < (l0.length : Int) then ((impl_eventOrder.f k1 ((rd_T118 l0 (ji14)).f0) ((rd_T118 l0 (ji14)).f1) ((rd_T118 l0 (ji14)).f2) ((rd_T118 l0 (ji14)).f3) ((rd_T118 l0 x7_1).f0) ((rd_T118 l0 x7_1).f1) ((rd_T118 l0 x7_1).f2) ((rd_T118 l0 x7_1).f3)).bind fun t574 => (if t574 ≥ 0 then (some false) else (impl_IsScore.l0 k1 l0 l0 (l0.length : Int) (wrap64 (x7_1 + 1))))) else (none)) else (none)) = some r := by first | (rw [hji14] at H; exact H) | (simp only [hji14] at H ⊢; exact H)
           (try rw [hji14] at A5)
           (try rw [hji14] at A7)
           (try rw [hji14] at A9)
           (try rw [hji14] at A11)
           have hji14w : (IntKind.i64.wrap (x7_1 - 1)) = ji14 := (i64_w _).trans hji14
           by_cases c15 : 0 ≤ (ji14)
           ·
            rw [if_pos c15] at H
            have c15b0 : decide (0 ≤ (ji14)) = true := decide_eq_true c15
            clear c15
            by_cases c16 : (ji14) < (l0.length : Int)
            ·
             rw [if_pos c16] at H
             have c16b0 : decide ((ji14) < (l0.length : Int)) = true := decide_eq_true c16
             clear c16
             replace H := bs_' H
             obtain ⟨t574, A170, H⟩ := H
             try dsimp only at H
             have A17 := sk_' A170
             clear A170
             by_cases c18 : t574 ≥ 0
             ·
              rw [if_pos c18] at H
              have c18b0 : decide (0 ≤ t574) = true := decide_eq_true c18
              clear c18
              obtain rfl := Option.some.inj H
              have p567 : 0 ≤ (x7_1 : Int) := od_' (by first | (with_reducible assumption) | assumption)
              have q567 : x7_1 < (l0.length : Int) := od_' (by first | (with_reducible assumption) | assumption)
              obtain ⟨ad567, e567, hx567_0, hx567_1, hx567_2, hx567_3⟩ := at_T118 HR0.out x7_1 p567 q567
              cases e567
              replace hx567_0 := (HB.out.cell (bq_' w _ hx567_0)).trans hx567_0
              replace hx567_1 := (HB.out.cell (bq_' w _ hx567_1)).trans hx567_1
              replace hx567_2 := (HB.out.cell (bq_' w _ hx567_2)).trans hx567_2
              replace hx567_3 := (HB.out.cell (bq_' w _ hx567_3)).trans hx567_3
              replace p567 := eq_true p567
              replace q567 := eq_true q567
              try go_wp2_with (first | ((with_reducible refine gate_dst (N := 4) rfl ?_); refine box_event ?hg (N := 4) ?hd (cs := #[.int .i64 0, .int .i64 0, .int .i64 0, .int .i64 0]) (t := 118) ?hr ?_; (case hd => rfl); (case hg => rfl); (case hr => first | (go_simp; done) | (go_simp; rfl)); intro gb568 hg w19 hbox hb; have n0_ := sk_' (pp_' (bm HB) hb); have n1_ := sk_' (hbox); have n2_ := sk_' ((by rw [hg]; exact (ps_' (bm HB)) : w.heap.size ≤ gb568)); have n3_ := sk_' ((by rw [hg]; exact (ps_' (bm HB)) : w.heap.size ≤ gb568)); clear HB; have HB := n0_; have BK568 := n1_; have GW568 := n2_; have GE568 := n3_; clear n0_ n1_ n2_ n3_; clear hb hbox hg; have hcz20_0 : w19.cell? ⟨gb568, 0, none⟩ = some (.int .i64 0) := (kc_' BK568.out 0).trans rfl; have hcz20_1 : w19.cell? ⟨gb568, 1, none⟩ = some (.int .i64 0) := (kc_' BK568.out 1).trans rfl; have hcz20_2 : w19.cell? ⟨gb568, 2, none⟩ = some (.int .i64 0) := (kc_' BK568.out 2).trans rfl; have hcz20_3 : w19.cell? ⟨gb568, 3, none⟩ = some (.int .i64 0) := (kc_' BK568.out 3).trans rfl; have hfz20_0 := kf_' BK568.out 0; have hfz20_1 := kf_' BK568.out 1; have hfz20_2 := kf_' BK568.out 2; have hfz20_3 := kf_' BK568.out 3))
              have n0_ : Aside0 (((((w19.setCell ⟨gb568, 0, none⟩ (.int .i64 ((rd_T118 l0 x7_1).f0))).setCell ⟨gb568, 1, none⟩ (.int .i64 ((rd_T118 l0 x7_1).f1))).setCell ⟨gb568, 2, none⟩ (.int .i64 ((rd_T118 l0 x7_1).f2))).setCell ⟨gb568, 3, none⟩ (.int .i64 ((rd_T118 l0 x7_1).f3))).heap[gb568]? = some (.cells #[.int .i64 ((rd_T118 l0 x7_1).f0), .int .i64 ((rd_T118 l0 x7_1).f1), .int .i64 ((rd_T118 l0 x7_1).f2), .int .i64 ((rd_T118 l0 x7_1).f3)] 118 (0, 0))) := ⟨by (with_reducible repeat (first | refine kn_' ?_ _ | refine kd_' ?_ | refine ka_' ?_ _)); refine blk_put (cs := #[.int .i64 ((rd_T118 l0 x7_1).f0), .int .i64 ((rd_T118 l0 x7_1).f1), .int .i64 ((rd_T118 l0 x7_1).f2), .int .i64 0]) ?_ 3 _ rfl; (with_reducible repeat (first | refine kn_' ?_ _ | refine kd_' ?_ | refine ka_' ?_ _)); refine blk_put (cs := #[.int .i64 ((rd_T118 l0 x7_1).f0), .int .i64 ((rd_T118 l0 x7_1).f1), .int .i64 0, .int .i64 0]) ?_ 2 _ rfl; (with_reducible repeat (first | refine kn_' ?_ _ | refine kd_' ?_ | refine ka_' ?_ _)); refine blk_put (cs := #[.int .i64 ((rd_T118 l0 x7_1).f0), .int .i64 0, .int .i64 0, .int .i64 0]) ?_ 1 _ rfl; (with_reducible repeat (first | refine kn_' ?_ _ | refine kd_' ?_ | refine ka_' ?_ _)); refine blk_put (cs := #[.int .i64 0, .int .i64 0, .int .i64 0, .int .i64 0]) ?_ 0 _ rfl; (with_reducible repeat (first | refine kn_' ?_ _ | refine kd_' ?_ | refine ka_' ?_ _)); exact BK568.out⟩
              have n1_ : Aside0 (Below w.heap.size w ((((w19.setCell ⟨gb568, 0, none⟩ (.int .i64 ((rd_T118 l0 x7_1).f0))).setCell ⟨gb568, 1, none⟩ (.int .i64 ((rd_T118 l0 x7_1).f1))).setCell ⟨gb568, 2, none⟩ (.int .i64 ((rd_T118 l0 x7_1).f2))).setCell ⟨gb568, 3, none⟩ (.int .i64 ((rd_T118 l0 x7_1).f3)))) := ⟨by repeat (first | (with_reducible first | exact HB.out | apply pa_' | apply pn_' | apply pd_' | refine pt_' ?_ GE568.out) | exact HB.out)⟩
              (try clear BK568)
              (try clear HB)
              generalize ((((w19.setCell ⟨gb568, 0, none⟩ (.int .i64 ((rd_T118 l0 x7_1).f0))).setCell ⟨gb568, 1, none⟩ (.int .i64 ((rd_T118 l0 x7_1).f1))).setCell ⟨gb568, 2, none⟩ (.int .i64 ((rd_T118 l0 x7_1).f2))).setCell ⟨gb568, 3, none⟩ (.int .i64 ((rd_T118 l0 x7_1).f3))) = w21 at n0_ n1_ ⊢
              have BK568 := n0_
              have HB := n1_
              clear n0_ n1_
              have n0_ := sk_' (kd_' BK568.out)
              have n1_ := sk_' (pd_' HB.out)
              clear BK568
              clear HB
              have BK568 := n0_
              have HB := n1_
              clear n0_ n1_
              have p573 : 0 ≤ ((ji14) : Int) := od_' (by first | (with_reducible assumption) | assumption)
              have q573 : (ji14) < (l0.length : Int) := od_' (by first | (with_reducible assumption) | assumption)
              obtain ⟨ad573, e573, hx573_0, hx573_1, hx573_2, hx573_3⟩ := at_T118 HR0.out (ji14) p573 q573
              have hw573_3 := hx573_3
              have hw573_2 := hx573_2
              have hw573_1 := hx573_1
              have hw573_0 := hx573_0
              obtain rfl : ad567 = ad573 := (by injection e573)
              replace hx573_0 := (HB.out.cell (bq_' w _ hx573_0)).trans hx573_0
              replace hx573_1 := (HB.out.cell (bq_' w _ hx573_1)).trans hx573_1
              replace hx573_2 := (HB.out.cell (bq_' w _ hx573_2)).trans hx573_2
              replace hx573_3 := (HB.out.cell (bq_' w _ hx573_3)).trans hx573_3
              replace p573 := eq_true p573
              replace q573 := eq_true q573
              refine BelowW.region (by kernel_rfl) (by kernel_rfl) ?_
              have hq0_ : w21.drew.cell? ⟨gb568, 0, none⟩ = some (.int .i64 ((rd_T118 l0 x7_1).f0)) := (kc_' BK568.out 0).trans rfl
              have hq1_ : w21.drew.cell? ⟨gb568, 1, none⟩ = some (.int .i64 ((rd_T118 l0 x7_1).f1)) := (kc_' BK568.out 1).trans rfl
              have hq2_ : w21.drew.cell? ⟨gb568, 2, none⟩ = some (.int .i64 ((rd_T118 l0 x7_1).f2)) := (kc_' BK568.out 2).trans rfl
              have hq3_ : w21.drew.cell? ⟨gb568, 3, none⟩ = some (.int .i64 ((rd_T118 l0 x7_1).f3)) := (kc_' BK568.out 3).trans rfl
              have hq4_ : w21.drew.cell? (ad567.add (((ji14)).toNat * 4)) = some (.int .i64 ((rd_T118 l0 (ji14)).f0)) := ((HB.out.cell (bq_' w _ hw573_0)).trans hw573_0)
              have hq5_ : w21.drew.cell? ⟨(ad567.add (((ji14)).toNat * 4)).block, (ad567.add (((ji14)).toNat * 4)).off + 1, none⟩ = some (.int .i64 ((rd_T118 l0 (ji14)).f1)) := ((HB.out.cell (bq_' w _ hw573_1)).trans hw573_1)
              have hq6_ : w21.drew.cell? ⟨(ad567.add (((ji14)).toNat * 4)).block, (ad567.add (((ji14)).toNat * 4)).off + 2, none⟩ = some (.int .i64 ((rd_T118 l0 (ji14)).f2)) := ((HB.out.cell (bq_' w _ hw573_2)).trans hw573_2)
              have hq7_ : w21.drew.cell? ⟨(ad567.add (((ji14)).toNat * 4)).block, (ad567.add (((ji14)).toNat * 4)).off + 3, none⟩ = some (.int .i64 ((rd_T118 l0 (ji14)).f3)) := ((HB.out.cell (bq_' w _ hw573_3)).trans hw573_3)
              generalize w21.drew = w22 at BK568 HB hx573_0 hx573_1 hx573_2 hx573_3 hq0_ hq1_ hq2_ hq3_ hq4_ hq5_ hq6_ hq7_ ⊢
              replace hq0_ := BelowW.at hq0_
              replace hq1_ := BelowW.at hq1_
              replace hq2_ := BelowW.at hq2_
              replace hq3_ := BelowW.at hq3_
              replace hq4_ := BelowW.at hq4_
              replace hq5_ := BelowW.at hq5_
              replace hq6_ := BelowW.at hq6_
              replace hq7_ := BelowW.at hq7_
              change wpQuiet _ _ _ _ (List.cons _ _) _
              repeat (go_big_quiet_step (first | (go_at_call 82; (with_reducible refine (impl_InRange.calls ((rd_T118 l0 x7_1).f0) 0 2000 true _ A5.out).mono ?_); exact fun _ _ h_ => ⟨h_.1, BelowW.drawn _ h_.2⟩) | (go_at_call 82; (with_reducible refine (impl_InRange.calls ((rd_T118 l0 x7_1).f1) 1 96 true _ A7.out).mono ?_); exact fun _ _ h_ => ⟨h_.1, BelowW.drawn _ h_.2⟩) | (go_at_call 82; (with_reducible refine (impl_InRange.calls ((rd_T118 l0 x7_1).f2) 21 108 true _ A9.out).mono ?_); exact fun _ _ h_ => ⟨h_.1, BelowW.drawn _ h_.2⟩) | (go_at_call 82; (with_reducible refine (impl_InRange.calls ((rd_T118 l0 x7_1).f3) 1 4 true _ A11.out).mono ?_); exact fun _ _ h_ => ⟨h_.1, BelowW.drawn _ h_.2⟩) | (go_at_call 134; (with_reducible refine (impl_eventOrder.calls k1 ((rd_T118 l0 (ji14)).f0) ((rd_T118 l0 (ji14)).f1) ((rd_T118 l0 (ji14)).f2) ((rd_T118 l0 (ji14)).f3) ((rd_T118 l0 x7_1).f0) ((rd_T118 l0 x7_1).f1) ((rd_T118 l0 x7_1).f2) ((rd_T118 l0 x7_1).f3) t574 _ A17.out).mono ?_); exact fun _ _ h_ => ⟨h_.1, BelowW.step _ h_.2⟩)))
              refine wpQuiet_nil ?_
              intro w23 hb
              try simp only [i64_w, i32_w]
              clear hq0_ hq1_ hq2_ hq3_ hq4_ hq5_ hq6_ hq7_
              have n0_ := sk_' (blk_below (g := gb568) (o := .cells #[.int .i64 ((rd_T118 l0 x7_1).f0), .int .i64 ((rd_T118 l0 x7_1).f1), .int .i64 ((rd_T118 l0 x7_1).f2), .int .i64 ((rd_T118 l0 x7_1).f3)] 118 (0, 0)) (km BK568) hb)
              have n1_ := sk_' (pp_' (bm HB) hb)
              clear BK568
              clear HB
              have BK568 := n0_
              have HB := n1_
              clear n0_ n1_
              (try clear hb)
              (try clear hb2)
              (try clear hk)
              (try clear hi)
              try go_wp2
              go_ret
              exact ⟨by first | rfl | (simp [errW_none, errW_some] <;> rfl) | (simp only [← hji14]; first | rfl | (simp [errW_none, errW_some] <;> rfl)) | (simp [*, errW_none, errW_some] <;> rfl), bm HB⟩
             rw [if_neg c18] at H
             have c18b0 : decide (0 ≤ t574) = false := decide_eq_false c18
             clear c18
             have H' := sk_' H
             clear H
             have p567 : 0 ≤ (x7_1 : Int) := od_' (by first | (with_reducible assumption) | assumption)
             have q567 : x7_1 < (l0.length : Int) := od_' (by first | (with_reducible assumption) | assumption)
             obtain ⟨ad567, e567, hx567_0, hx567_1, hx567_2, hx567_3⟩ := at_T118 HR0.out x7_1 p567 q567
             cases e567
             replace hx567_0 := (HB.out.cell (bq_' w _ hx567_0)).trans hx567_0
             replace hx567_1 := (HB.out.cell (bq_' w _ hx567_1)).trans hx567_1
             replace hx567_2 := (HB.out.cell (bq_' w _ hx567_2)).trans hx567_2
             replace hx567_3 := (HB.out.cell (bq_' w _ hx567_3)).trans hx567_3
             replace p567 := eq_true p567
             replace q567 := eq_true q567
             try go_wp2_with (first | ((with_reducible refine gate_dst (N := 4) rfl ?_); refine box_event ?hg (N := 4) ?hd (cs := #[.int .i64 0, .int .i64 0, .int .i64 0, .int .i64 0]) (t := 118) ?hr ?_; (case hd => rfl); (case hg => rfl); (case hr => first | (go_simp; done) | (go_simp; rfl)); intro gb568 hg w24 hbox hb; have n0_ := sk_' (pp_' (bm HB) hb); have n1_ := sk_' (hbox); have n2_ := sk_' ((by rw [hg]; exact (ps_' (bm HB)) : w.heap.size ≤ gb568)); have n3_ := sk_' ((by rw [hg]; exact (ps_' (bm HB)) : w.heap.size ≤ gb568)); clear HB; have HB := n0_; have BK568 := n1_; have GW568 := n2_; have GE568 := n3_; clear n0_ n1_ n2_ n3_; clear hb hbox hg; have hcz25_0 : w24.cell? ⟨gb568, 0, none⟩ = some (.int .i64 0) := (kc_' BK568.out 0).trans rfl; have hcz25_1 : w24.cell? ⟨gb568, 1, none⟩ = some (.int .i64 0) := (kc_' BK568.out 1).trans rfl; have hcz25_2 : w24.cell? ⟨gb568, 2, none⟩ = some (.int .i64 0) := (kc_' BK568.out 2).trans rfl; have hcz25_3 : w24.cell? ⟨gb568, 3, none⟩ = some (.int .i64 0) := (kc_' BK568.out 3).trans rfl; have hfz25_0 := kf_' BK568.out 0; have hfz25_1 := kf_' BK568.out 1; have hfz25_2 := kf_' BK568.out 2; have hfz25_3 := kf_' BK568.out 3))
             have n0_ : Aside0 (((((w24.setCell ⟨gb568, 0, none⟩ (.int .i64 ((rd_T118 l0 x7_1).f0))).setCell ⟨gb568, 1, none⟩ (.int .i64 ((rd_T118 l0 x7_1).f1))).setCell ⟨gb568, 2, none⟩ (.int .i64 ((rd_T118 l0 x7_1).f2))).setCell ⟨gb568, 3, none⟩ (.int .i64 ((rd_T118 l0 x7_1).f3))).heap[gb568]? = some (.cells #[.int .i64 ((rd_T118 l0 x7_1).f0), .int .i64 ((rd_T118 l0 x7_1).f1), .int .i64 ((rd_T118 l0 x7_1).f2), .int .i64 ((rd_T118 l0 x7_1).f3)] 118 (0, 0))) := ⟨by (with_reducible repeat (first | refine kn_' ?_ _ | refine kd_' ?_ | refine ka_' ?_ _)); refine blk_put (cs := #[.int .i64 ((rd_T118 l0 x7_1).f0), .int .i64 ((rd_T118 l0 x7_1).f1), .int .i64 ((rd_T118 l0 x7_1).f2), .int .i64 0]) ?_ 3 _ rfl; (with_reducible repeat (first | refine kn_' ?_ _ | refine kd_' ?_ | refine ka_' ?_ _)); refine blk_put (cs := #[.int .i64 ((rd_T118 l0 x7_1).f0), .int .i64 ((rd_T118 l0 x7_1).f1), .int .i64 0, .int .i64 0]) ?_ 2 _ rfl; (with_reducible repeat (first | refine kn_' ?_ _ | refine kd_' ?_ | refine ka_' ?_ _)); refine blk_put (cs := #[.int .i64 ((rd_T118 l0 x7_1).f0), .int .i64 0, .int .i64 0, .int .i64 0]) ?_ 1 _ rfl; (with_reducible repeat (first | refine kn_' ?_ _ | refine kd_' ?_ | refine ka_' ?_ _)); refine blk_put (cs := #[.int .i64 0, .int .i64 0, .int .i64 0, .int .i64 0]) ?_ 0 _ rfl; (with_reducible repeat (first | refine kn_' ?_ _ | refine kd_' ?_ | refine ka_' ?_ _)); exact BK568.out⟩
             have n1_ : Aside0 (Below w.heap.size w ((((w24.setCell ⟨gb568, 0, none⟩ (.int .i64 ((rd_T118 l0 x7_1).f0))).setCell ⟨gb568, 1, none⟩ (.int .i64 ((rd_T118 l0 x7_1).f1))).setCell ⟨gb568, 2, none⟩ (.int .i64 ((rd_T118 l0 x7_1).f2))).setCell ⟨gb568, 3, none⟩ (.int .i64 ((rd_T118 l0 x7_1).f3)))) := ⟨by repeat (first | (with_reducible first | exact HB.out | apply pa_' | apply pn_' | apply pd_' | refine pt_' ?_ GE568.out) | exact HB.out)⟩
             (try clear BK568)
             (try clear HB)
             generalize ((((w24.setCell ⟨gb568, 0, none⟩ (.int .i64 ((rd_T118 l0 x7_1).f0))).setCell ⟨gb568, 1, none⟩ (.int .i64 ((rd_T118 l0 x7_1).f1))).setCell ⟨gb568, 2, none⟩ (.int .i64 ((rd_T118 l0 x7_1).f2))).setCell ⟨gb568, 3, none⟩ (.int .i64 ((rd_T118 l0 x7_1).f3))) = w26 at n0_ n1_ ⊢
             have BK568 := n0_
             have HB := n1_
             clear n0_ n1_
             have n0_ := sk_' (kd_' BK568.out)
             have n1_ := sk_' (pd_' HB.out)
             clear BK568
             clear HB
             have BK568 := n0_
             have HB := n1_
             clear n0_ n1_
             have p573 : 0 ≤ ((ji14) : Int) := od_' (by first | (with_reducible assumption) | assumption)
             have q573 : (ji14) < (l0.length : Int) := od_' (by first | (with_reducible assumption) | assumption)
             obtain ⟨ad573, e573, hx573_0, hx573_1, hx573_2, hx573_3⟩ := at_T118 HR0.out (ji14) p573 q573
             have hw573_3 := hx573_3
             have hw573_2 := hx573_2
             have hw573_1 := hx573_1
             have hw573_0 := hx573_0
             obtain rfl : ad567 = ad573 := (by injection e573)
             replace hx573_0 := (HB.out.cell (bq_' w _ hx573_0)).trans hx573_0
             replace hx573_1 := (HB.out.cell (bq_' w _ hx573_1)).trans hx573_1
             replace hx573_2 := (HB.out.cell (bq_' w _ hx573_2)).trans hx573_2
             replace hx573_3 := (HB.out.cell (bq_' w _ hx573_3)).trans hx573_3
             replace p573 := eq_true p573
             replace q573 := eq_true q573
             refine BelowW.region (by kernel_rfl) (by kernel_rfl) ?_
             have hq0_ : w26.drew.cell? ⟨gb568, 0, none⟩ = some (.int .i64 ((rd_T118 l0 x7_1).f0)) := (kc_' BK568.out 0).trans rfl
             have hq1_ : w26.drew.cell? ⟨gb568, 1, none⟩ = some (.int .i64 ((rd_T118 l0 x7_1).f1)) := (kc_' BK568.out 1).trans rfl
             have hq2_ : w26.drew.cell? ⟨gb568, 2, none⟩ = some (.int .i64 ((rd_T118 l0 x7_1).f2)) := (kc_' BK568.out 2).trans rfl
             have hq3_ : w26.drew.cell? ⟨gb568, 3, none⟩ = some (.int .i64 ((rd_T118 l0 x7_1).f3)) := (kc_' BK568.out 3).trans rfl
             have hq4_ : w26.drew.cell? (ad567.add (((ji14)).toNat * 4)) = some (.int .i64 ((rd_T118 l0 (ji14)).f0)) := ((HB.out.cell (bq_' w _ hw573_0)).trans hw573_0)
             have hq5_ : w26.drew.cell? ⟨(ad567.add (((ji14)).toNat * 4)).block, (ad567.add (((ji14)).toNat * 4)).off + 1, none⟩ = some (.int .i64 ((rd_T118 l0 (ji14)).f1)) := ((HB.out.cell (bq_' w _ hw573_1)).trans hw573_1)
             have hq6_ : w26.drew.cell? ⟨(ad567.add (((ji14)).toNat * 4)).block, (ad567.add (((ji14)).toNat * 4)).off + 2, none⟩ = some (.int .i64 ((rd_T118 l0 (ji14)).f2)) := ((HB.out.cell (bq_' w _ hw573_2)).trans hw573_2)
             have hq7_ : w26.drew.cell? ⟨(ad567.add (((ji14)).toNat * 4)).block, (ad567.add (((ji14)).toNat * 4)).off + 3, none⟩ = some (.int .i64 ((rd_T118 l0 (ji14)).f3)) := ((HB.out.cell (bq_' w _ hw573_3)).trans hw573_3)
             generalize w26.drew = w27 at BK568 HB hx573_0 hx573_1 hx573_2 hx573_3 hq0_ hq1_ hq2_ hq3_ hq4_ hq5_ hq6_ hq7_ ⊢
             replace hq0_ := BelowW.at hq0_
             replace hq1_ := BelowW.at hq1_
             replace hq2_ := BelowW.at hq2_
             replace hq3_ := BelowW.at hq3_
             replace hq4_ := BelowW.at hq4_
             replace hq5_ := BelowW.at hq5_
             replace hq6_ := BelowW.at hq6_
             replace hq7_ := BelowW.at hq7_
             change wpQuiet _ _ _ _ (List.cons _ _) _
             repeat (go_big_quiet_step (first | (go_at_call 82; (with_reducible refine (impl_InRange.calls ((rd_T118 l0 x7_1).f0) 0 2000 true _ A5.out).mono ?_); exact fun _ _ h_ => ⟨h_.1, BelowW.drawn _ h_.2⟩) | (go_at_call 82; (with_reducible refine (impl_InRange.calls ((rd_T118 l0 x7_1).f1) 1 96 true _ A7.out).mono ?_); exact fun _ _ h_ => ⟨h_.1, BelowW.drawn _ h_.2⟩) | (go_at_call 82; (with_reducible refine (impl_InRange.calls ((rd_T118 l0 x7_1).f2) 21 108 true _ A9.out).mono ?_); exact fun _ _ h_ => ⟨h_.1, BelowW.drawn _ h_.2⟩) | (go_at_call 82; (with_reducible refine (impl_InRange.calls ((rd_T118 l0 x7_1).f3) 1 4 true _ A11.out).mono ?_); exact fun _ _ h_ => ⟨h_.1, BelowW.drawn _ h_.2⟩) | (go_at_call 134; (with_reducible refine (impl_eventOrder.calls k1 ((rd_T118 l0 (ji14)).f0) ((rd_T118 l0 (ji14)).f1) ((rd_T118 l0 (ji14)).f2) ((rd_T118 l0 (ji14)).f3) ((rd_T118 l0 x7_1).f0) ((rd_T118 l0 x7_1).f1) ((rd_T118 l0 x7_1).f2) ((rd_T118 l0 x7_1).f3) t574 _ A17.out).mono ?_); exact fun _ _ h_ => ⟨h_.1, BelowW.step _ h_.2⟩)))
             refine wpQuiet_nil ?_
             intro w28 hb
             try simp only [i64_w, i32_w]
             clear hq0_ hq1_ hq2_ hq3_ hq4_ hq5_ hq6_ hq7_
             have n0_ := sk_' (blk_below (g := gb568) (o := .cells #[.int .i64 ((rd_T118 l0 x7_1).f0), .int .i64 ((rd_T118 l0 x7_1).f1), .int .i64 ((rd_T118 l0 x7_1).f2), .int .i64 ((rd_T118 l0 x7_1).f3)] 118 (0, 0)) (km BK568) hb)
             have n1_ := sk_' (pp_' (bm HB) hb)
             clear BK568
             clear HB
             have BK568 := n0_
             have HB := n1_
             clear n0_ n1_
             (try clear hb)
             (try clear hb2)
             (try clear hk)
             (try clear hi)
             try go_wp2
             go_roundg k1
             case measure => have := HK1.out; omega
             case rel => exact ⟨(wrap64 (x7_1 + 1)), rfl, H', ⟨by have := HK1.out; omega⟩, ⟨bm HB⟩⟩
            rw [if_neg c16] at H
            exact absurd H (by simp)
           rw [if_neg c15] at H
           exact absurd H (by simp)
          rw [if_neg c13] at H
          have c13b0 : decide (0 < x7_1) = false := decide_eq_false c13
          clear c13
          have H' := sk_' H
          clear H
          have p567 : 0 ≤ (x7_1 : Int) := od_' (by first | (with_reducible assumption) | assumption)
          have q567 : x7_1 < (l0.length : Int) := od_' (by first | (with_reducible assumption) | assumption)
          obtain ⟨ad567, e567, hx567_0, hx567_1, hx567_2, hx567_3⟩ := at_T118 HR0.out x7_1 p567 q567
          cases e567
          replace hx567_0 := (HB.out.cell (bq_' w _ hx567_0)).trans hx567_0
          replace hx567_1 := (HB.out.cell (bq_' w _ hx567_1)).trans hx567_1
          replace hx567_2 := (HB.out.cell (bq_' w _ hx567_2)).trans hx567_2
          replace hx567_3 := (HB.out.cell (bq_' w _ hx567_3)).trans hx567_3
          replace p567 := eq_true p567
          replace q567 := eq_true q567
          try go_wp2_with (first | ((with_reducible refine gate_dst (N := 4) rfl ?_); refine box_event ?hg (N := 4) ?hd (cs := #[.int .i64 0, .int .i64 0, .int .i64 0, .int .i64 0]) (t := 118) ?hr ?_; (case hd => rfl); (case hg => rfl); (case hr => first | (go_simp; done) | (go_simp; rfl)); intro gb568 hg w29 hbox hb; have n0_ := sk_' (pp_' (bm HB) hb); have n1_ := sk_' (hbox); have n2_ := sk_' ((by rw [hg]; exact (ps_' (bm HB)) : w.heap.size ≤ gb568)); have n3_ := sk_' ((by rw [hg]; exact (ps_' (bm HB)) : w.heap.size ≤ gb568)); clear HB; have HB := n0_; have BK568 := n1_; have GW568 := n2_; have GE568 := n3_; clear n0_ n1_ n2_ n3_; clear hb hbox hg; have hcz30_0 : w29.cell? ⟨gb568, 0, none⟩ = some (.int .i64 0) := (kc_' BK568.out 0).trans rfl; have hcz30_1 : w29.cell? ⟨gb568, 1, none⟩ = some (.int .i64 0) := (kc_' BK568.out 1).trans rfl; have hcz30_2 : w29.cell? ⟨gb568, 2, none⟩ = some (.int .i64 0) := (kc_' BK568.out 2).trans rfl; have hcz30_3 : w29.cell? ⟨gb568, 3, none⟩ = some (.int .i64 0) := (kc_' BK568.out 3).trans rfl; have hfz30_0 := kf_' BK568.out 0; have hfz30_1 := kf_' BK568.out 1; have hfz30_2 := kf_' BK568.out 2; have hfz30_3 := kf_' BK568.out 3))
          have n0_ : Aside0 (((((w29.setCell ⟨gb568, 0, none⟩ (.int .i64 ((rd_T118 l0 x7_1).f0))).setCell ⟨gb568, 1, none⟩ (.int .i64 ((rd_T118 l0 x7_1).f1))).setCell ⟨gb568, 2, none⟩ (.int .i64 ((rd_T118 l0 x7_1).f2))).setCell ⟨gb568, 3, none⟩ (.int .i64 ((rd_T118 l0 x7_1).f3))).heap[gb568]? = some (.cells #[.int .i64 ((rd_T118 l0 x7_1).f0), .int .i64 ((rd_T118 l0 x7_1).f1), .int .i64 ((rd_T118 l0 x7_1).f2), .int .i64 ((rd_T118 l0 x7_1).f3)] 118 (0, 0))) := ⟨by (with_reducible repeat (first | refine kn_' ?_ _ | refine kd_' ?_ | refine ka_' ?_ _)); refine blk_put (cs := #[.int .i64 ((rd_T118 l0 x7_1).f0), .int .i64 ((rd_T118 l0 x7_1).f1), .int .i64 ((rd_T118 l0 x7_1).f2), .int .i64 0]) ?_ 3 _ rfl; (with_reducible repeat (first | refine kn_' ?_ _ | refine kd_' ?_ | refine ka_' ?_ _)); refine blk_put (cs := #[.int .i64 ((rd_T118 l0 x7_1).f0), .int .i64 ((rd_T118 l0 x7_1).f1), .int .i64 0, .int .i64 0]) ?_ 2 _ rfl; (with_reducible repeat (first | refine kn_' ?_ _ | refine kd_' ?_ | refine ka_' ?_ _)); refine blk_put (cs := #[.int .i64 ((rd_T118 l0 x7_1).f0), .int .i64 0, .int .i64 0, .int .i64 0]) ?_ 1 _ rfl; (with_reducible repeat (first | refine kn_' ?_ _ | refine kd_' ?_ | refine ka_' ?_ _)); refine blk_put (cs := #[.int .i64 0, .int .i64 0, .int .i64 0, .int .i64 0]) ?_ 0 _ rfl; (with_reducible repeat (first | refine kn_' ?_ _ | refine kd_' ?_ | refine ka_' ?_ _)); exact BK568.out⟩
          have n1_ : Aside0 (Below w.heap.size w ((((w29.setCell ⟨gb568, 0, none⟩ (.int .i64 ((rd_T118 l0 x7_1).f0))).setCell ⟨gb568, 1, none⟩ (.int .i64 ((rd_T118 l0 x7_1).f1))).setCell ⟨gb568, 2, none⟩ (.int .i64 ((rd_T118 l0 x7_1).f2))).setCell ⟨gb568, 3, none⟩ (.int .i64 ((rd_T118 l0 x7_1).f3)))) := ⟨by repeat (first | (with_reducible first | exact HB.out | apply pa_' | apply pn_' | apply pd_' | refine pt_' ?_ GE568.out) | exact HB.out)⟩
          (try clear BK568)
          (try clear HB)
          generalize ((((w29.setCell ⟨gb568, 0, none⟩ (.int .i64 ((rd_T118 l0 x7_1).f0))).setCell ⟨gb568, 1, none⟩ (.int .i64 ((rd_T118 l0 x7_1).f1))).setCell ⟨gb568, 2, none⟩ (.int .i64 ((rd_T118 l0 x7_1).f2))).setCell ⟨gb568, 3, none⟩ (.int .i64 ((rd_T118 l0 x7_1).f3))) = w31 at n0_ n1_ ⊢
          have BK568 := n0_
          have HB := n1_
          clear n0_ n1_
          have n0_ := sk_' (kd_' BK568.out)
          have n1_ := sk_' (pd_' HB.out)
          clear BK568
          clear HB
          have BK568 := n0_
          have HB := n1_
          clear n0_ n1_
          have hq0_ : w31.cell? ⟨gb568, 0, none⟩ = some (.int .i64 ((rd_T118 l0 x7_1).f0)) := (kc_' BK568.out 0).trans rfl
          have hq1_ : w31.cell? ⟨gb568, 1, none⟩ = some (.int .i64 ((rd_T118 l0 x7_1).f1)) := (kc_' BK568.out 1).trans rfl
          have hq2_ : w31.cell? ⟨gb568, 2, none⟩ = some (.int .i64 ((rd_T118 l0 x7_1).f2)) := (kc_' BK568.out 2).trans rfl
          have hq3_ : w31.cell? ⟨gb568, 3, none⟩ = some (.int .i64 ((rd_T118 l0 x7_1).f3)) := (kc_' BK568.out 3).trans rfl
          go_quiet ((first | (go_at_call 82; apply Calls.quiet_of; ((with_reducible refine (impl_InRange.calls ((rd_T118 l0 x7_1).f0) 0 2000 true _ A5.out).mono ?_); exact fun _ _ h_ => ⟨h_.1, h_.2.out⟩)) | (go_at_call 82; apply Calls.quiet_of; ((with_reducible refine (impl_InRange.calls ((rd_T118 l0 x7_1).f1) 1 96 true _ A7.out).mono ?_); exact fun _ _ h_ => ⟨h_.1, h_.2.out⟩)) | (go_at_call 82; apply Calls.quiet_of; ((with_reducible refine (impl_InRange.calls ((rd_T118 l0 x7_1).f2) 21 108 true _ A9.out).mono ?_); exact fun _ _ h_ => ⟨h_.1, h_.2.out⟩)) | (go_at_call 82; apply Calls.quiet_of; ((with_reducible refine (impl_InRange.calls ((rd_T118 l0 x7_1).f3) 1 4 true _ A11.out).mono ?_); exact fun _ _ h_ => ⟨h_.1, h_.2.out⟩))))
          have nBK568_ := sk_' (kn_' (w := w31) BK568.out nq)
          have nHB_ := sk_' (pn_' (W := w31) ⟨HB.out.os, HB.out.tape, HB.out.output, HB.out.size, HB.out.block⟩ nq)
          clear BK568 HB hq0_ hq1_ hq2_ hq3_
          have BK568 := nBK568_
          have HB := nHB_
          clear nBK568_ nHB_
          generalize w31.drewN nq = w32 at BK568 HB ⊢
          try go_wp2
          go_roundg k1
          case measure => have := HK1.out; omega
          case rel => exact ⟨(wrap64 (x7_1 + 1)), rfl, H', ⟨by have := HK1.out; omega⟩, ⟨bm HB⟩⟩
         replace c12 := Bool.eq_false_iff.mpr c12
         subst c12
         rw [if_neg (show ¬ (false = true) by decide)] at H
         obtain rfl := Option.some.inj H
         have p567 : 0 ≤ (x7_1 : Int) := od_' (by first | (with_reducible assumption) | assumption)
         have q567 : x7_1 < (l0.length : Int) := od_' (by first | (with_reducible assumption) | assumption)
         obtain ⟨ad567, e567, hx567_0, hx567_1, hx567_2, hx567_3⟩ := at_T118 HR0.out x7_1 p567 q567
         cases e567
         replace hx567_0 := (HB.out.cell (bq_' w _ hx567_0)).trans hx567_0
         replace hx567_1 := (HB.out.cell (bq_' w _ hx567_1)).trans hx567_1
         replace hx567_2 := (HB.out.cell (bq_' w _ hx567_2)).trans hx567_2
         replace hx567_3 := (HB.out.cell (bq_' w _ hx567_3)).trans hx567_3
         replace p567 := eq_true p567
         replace q567 := eq_true q567
         try go_wp2_with (first | ((with_reducible refine gate_dst (N := 4) rfl ?_); refine box_event ?hg (N := 4) ?hd (cs := #[.int .i64 0, .int .i64 0, .int .i64 0, .int .i64 0]) (t := 118) ?hr ?_; (case hd => rfl); (case hg => rfl); (case hr => first | (go_simp; done) | (go_simp; rfl)); intro gb568 hg w33 hbox hb; have n0_ := sk_' (pp_' (bm HB) hb); have n1_ := sk_' (hbox); have n2_ := sk_' ((by rw [hg]; exact (ps_' (bm HB)) : w.heap.size ≤ gb568)); have n3_ := sk_' ((by rw [hg]; exact (ps_' (bm HB)) : w.heap.size ≤ gb568)); clear HB; have HB := n0_; have BK568 := n1_; have GW568 := n2_; have GE568 := n3_; clear n0_ n1_ n2_ n3_; clear hb hbox hg; have hcz34_0 : w33.cell? ⟨gb568, 0, none⟩ = some (.int .i64 0) := (kc_' BK568.out 0).trans rfl; have hcz34_1 : w33.cell? ⟨gb568, 1, none⟩ = some (.int .i64 0) := (kc_' BK568.out 1).trans rfl; have hcz34_2 : w33.cell? ⟨gb568, 2, none⟩ = some (.int .i64 0) := (kc_' BK568.out 2).trans rfl; have hcz34_3 : w33.cell? ⟨gb568, 3, none⟩ = some (.int .i64 0) := (kc_' BK568.out 3).trans rfl; have hfz34_0 := kf_' BK568.out 0; have hfz34_1 := kf_' BK568.out 1; have hfz34_2 := kf_' BK568.out 2; have hfz34_3 := kf_' BK568.out 3))
         have n0_ : Aside0 (((((w33.setCell ⟨gb568, 0, none⟩ (.int .i64 ((rd_T118 l0 x7_1).f0))).setCell ⟨gb568, 1, none⟩ (.int .i64 ((rd_T118 l0 x7_1).f1))).setCell ⟨gb568, 2, none⟩ (.int .i64 ((rd_T118 l0 x7_1).f2))).setCell ⟨gb568, 3, none⟩ (.int .i64 ((rd_T118 l0 x7_1).f3))).heap[gb568]? = some (.cells #[.int .i64 ((rd_T118 l0 x7_1).f0), .int .i64 ((rd_T118 l0 x7_1).f1), .int .i64 ((rd_T118 l0 x7_1).f2), .int .i64 ((rd_T118 l0 x7_1).f3)] 118 (0, 0))) := ⟨by (with_reducible repeat (first | refine kn_' ?_ _ | refine kd_' ?_ | refine ka_' ?_ _)); refine blk_put (cs := #[.int .i64 ((rd_T118 l0 x7_1).f0), .int .i64 ((rd_T118 l0 x7_1).f1), .int .i64 ((rd_T118 l0 x7_1).f2), .int .i64 0]) ?_ 3 _ rfl; (with_reducible repeat (first | refine kn_' ?_ _ | refine kd_' ?_ | refine ka_' ?_ _)); refine blk_put (cs := #[.int .i64 ((rd_T118 l0 x7_1).f0), .int .i64 ((rd_T118 l0 x7_1).f1), .int .i64 0, .int .i64 0]) ?_ 2 _ rfl; (with_reducible repeat (first | refine kn_' ?_ _ | refine kd_' ?_ | refine ka_' ?_ _)); refine blk_put (cs := #[.int .i64 ((rd_T118 l0 x7_1).f0), .int .i64 0, .int .i64 0, .int .i64 0]) ?_ 1 _ rfl; (with_reducible repeat (first | refine kn_' ?_ _ | refine kd_' ?_ | refine ka_' ?_ _)); refine blk_put (cs := #[.int .i64 0, .int .i64 0, .int .i64 0, .int .i64 0]) ?_ 0 _ rfl; (with_reducible repeat (first | refine kn_' ?_ _ | refine kd_' ?_ | refine ka_' ?_ _)); exact BK568.out⟩
         have n1_ : Aside0 (Below w.heap.size w ((((w33.setCell ⟨gb568, 0, none⟩ (.int .i64 ((rd_T118 l0 x7_1).f0))).setCell ⟨gb568, 1, none⟩ (.int .i64 ((rd_T118 l0 x7_1).f1))).setCell ⟨gb568, 2, none⟩ (.int .i64 ((rd_T118 l0 x7_1).f2))).setCell ⟨gb568, 3, none⟩ (.int .i64 ((rd_T118 l0 x7_1).f3)))) := ⟨by repeat (first | (with_reducible first | exact HB.out | apply pa_' | apply pn_' | apply pd_' | refine pt_' ?_ GE568.out) | exact HB.out)⟩
         (try clear BK568)
         (try clear HB)
         generalize ((((w33.setCell ⟨gb568, 0, none⟩ (.int .i64 ((rd_T118 l0 x7_1).f0))).setCell ⟨gb568, 1, none⟩ (.int .i64 ((rd_T118 l0 x7_1).f1))).setCell ⟨gb568, 2, none⟩ (.int .i64 ((rd_T118 l0 x7_1).f2))).setCell ⟨gb568, 3, none⟩ (.int .i64 ((rd_T118 l0 x7_1).f3))) = w35 at n0_ n1_ ⊢
         have BK568 := n0_
         have HB := n1_
         clear n0_ n1_
         have n0_ := sk_' (kd_' BK568.out)
         have n1_ := sk_' (pd_' HB.out)
         clear BK568
         clear HB
         have BK568 := n0_
         have HB := n1_
         clear n0_ n1_
         have hq0_ : w35.cell? ⟨gb568, 0, none⟩ = some (.int .i64 ((rd_T118 l0 x7_1).f0)) := (kc_' BK568.out 0).trans rfl
         have hq1_ : w35.cell? ⟨gb568, 1, none⟩ = some (.int .i64 ((rd_T118 l0 x7_1).f1)) := (kc_' BK568.out 1).trans rfl
         have hq2_ : w35.cell? ⟨gb568, 2, none⟩ = some (.int .i64 ((rd_T118 l0 x7_1).f2)) := (kc_' BK568.out 2).trans rfl
         have hq3_ : w35.cell? ⟨gb568, 3, none⟩ = some (.int .i64 ((rd_T118 l0 x7_1).f3)) := (kc_' BK568.out 3).trans rfl
         go_quiet ((first | (go_at_call 82; apply Calls.quiet_of; ((with_reducible refine (impl_InRange.calls ((rd_T118 l0 x7_1).f0) 0 2000 true _ A5.out).mono ?_); exact fun _ _ h_ => ⟨h_.1, h_.2.out⟩)) | (go_at_call 82; apply Calls.quiet_of; ((with_reducible refine (impl_InRange.calls ((rd_T118 l0 x7_1).f1) 1 96 true _ A7.out).mono ?_); exact fun _ _ h_ => ⟨h_.1, h_.2.out⟩)) | (go_at_call 82; apply Calls.quiet_of; ((with_reducible refine (impl_InRange.calls ((rd_T118 l0 x7_1).f2) 21 108 true _ A9.out).mono ?_); exact fun _ _ h_ => ⟨h_.1, h_.2.out⟩)) | (go_at_call 82; apply Calls.quiet_of; ((with_reducible refine (impl_InRange.calls ((rd_T118 l0 x7_1).f3) 1 4 false _ A11.out).mono ?_); exact fun _ _ h_ => ⟨h_.1, h_.2.out⟩))))
         have nBK568_ := sk_' (kn_' (w := w35) BK568.out nq)
         have nHB_ := sk_' (pn_' (W := w35) ⟨HB.out.os, HB.out.tape, HB.out.output, HB.out.size, HB.out.block⟩ nq)
         clear BK568 HB hq0_ hq1_ hq2_ hq3_
         have BK568 := nBK568_
         have HB := nHB_
         clear nBK568_ nHB_
         generalize w35.drewN nq = w36 at BK568 HB ⊢
         try go_wp2
         go_ret
         exact ⟨rfl, bm HB⟩
        replace c10 := Bool.eq_false_iff.mpr c10
        subst c10
        rw [if_neg (show ¬ (false = true) by decide)] at H
        obtain rfl := Option.some.inj H
        have p567 : 0 ≤ (x7_1 : Int) := od_' (by first | (with_reducible assumption) | assumption)
        have q567 : x7_1 < (l0.length : Int) := od_' (by first | (with_reducible assumption) | assumption)
        obtain ⟨ad567, e567, hx567_0, hx567_1, hx567_2, hx567_3⟩ := at_T118 HR0.out x7_1 p567 q567
        cases e567
        replace hx567_0 := (HB.out.cell (bq_' w _ hx567_0)).trans hx567_0
        replace hx567_1 := (HB.out.cell (bq_' w _ hx567_1)).trans hx567_1
        replace hx567_2 := (HB.out.cell (bq_' w _ hx567_2)).trans hx567_2
        replace hx567_3 := (HB.out.cell (bq_' w _ hx567_3)).trans hx567_3
        replace p567 := eq_true p567
        replace q567 := eq_true q567
        try go_wp2_with (first | ((with_reducible refine gate_dst (N := 4) rfl ?_); refine box_event ?hg (N := 4) ?hd (cs := #[.int .i64 0, .int .i64 0, .int .i64 0, .int .i64 0]) (t := 118) ?hr ?_; (case hd => rfl); (case hg => rfl); (case hr => first | (go_simp; done) | (go_simp; rfl)); intro gb568 hg w37 hbox hb; have n0_ := sk_' (pp_' (bm HB) hb); have n1_ := sk_' (hbox); have n2_ := sk_' ((by rw [hg]; exact (ps_' (bm HB)) : w.heap.size ≤ gb568)); have n3_ := sk_' ((by rw [hg]; exact (ps_' (bm HB)) : w.heap.size ≤ gb568)); clear HB; have HB := n0_; have BK568 := n1_; have GW568 := n2_; have GE568 := n3_; clear n0_ n1_ n2_ n3_; clear hb hbox hg; have hcz38_0 : w37.cell? ⟨gb568, 0, none⟩ = some (.int .i64 0) := (kc_' BK568.out 0).trans rfl; have hcz38_1 : w37.cell? ⟨gb568, 1, none⟩ = some (.int .i64 0) := (kc_' BK568.out 1).trans rfl; have hcz38_2 : w37.cell? ⟨gb568, 2, none⟩ = some (.int .i64 0) := (kc_' BK568.out 2).trans rfl; have hcz38_3 : w37.cell? ⟨gb568, 3, none⟩ = some (.int .i64 0) := (kc_' BK568.out 3).trans rfl; have hfz38_0 := kf_' BK568.out 0; have hfz38_1 := kf_' BK568.out 1; have hfz38_2 := kf_' BK568.out 2; have hfz38_3 := kf_' BK568.out 3))
        have n0_ : Aside0 (((((w37.setCell ⟨gb568, 0, none⟩ (.int .i64 ((rd_T118 l0 x7_1).f0))).setCell ⟨gb568, 1, none⟩ (.int .i64 ((rd_T118 l0 x7_1).f1))).setCell ⟨gb568, 2, none⟩ (.int .i64 ((rd_T118 l0 x7_1).f2))).setCell ⟨gb568, 3, none⟩ (.int .i64 ((rd_T118 l0 x7_1).f3))).heap[gb568]? = some (.cells #[.int .i64 ((rd_T118 l0 x7_1).f0), .int .i64 ((rd_T118 l0 x7_1).f1), .int .i64 ((rd_T118 l0 x7_1).f2), .int .i64 ((rd_T118 l0 x7_1).f3)] 118 (0, 0))) := ⟨by (with_reducible repeat (first | refine kn_' ?_ _ | refine kd_' ?_ | refine ka_' ?_ _)); refine blk_put (cs := #[.int .i64 ((rd_T118 l0 x7_1).f0), .int .i64 ((rd_T118 l0 x7_1).f1), .int .i64 ((rd_T118 l0 x7_1).f2), .int .i64 0]) ?_ 3 _ rfl; (with_reducible repeat (first | refine kn_' ?_ _ | refine kd_' ?_ | refine ka_' ?_ _)); refine blk_put (cs := #[.int .i64 ((rd_T118 l0 x7_1).f0), .int .i64 ((rd_T118 l0 x7_1).f1), .int .i64 0, .int .i64 0]) ?_ 2 _ rfl; (with_reducible repeat (first | refine kn_' ?_ _ | refine kd_' ?_ | refine ka_' ?_ _)); refine blk_put (cs := #[.int .i64 ((rd_T118 l0 x7_1).f0), .int .i64 0, .int .i64 0, .int .i64 0]) ?_ 1 _ rfl; (with_reducible repeat (first | refine kn_' ?_ _ | refine kd_' ?_ | refine ka_' ?_ _)); refine blk_put (cs := #[.int .i64 0, .int .i64 0, .int .i64 0, .int .i64 0]) ?_ 0 _ rfl; (with_reducible repeat (first | refine kn_' ?_ _ | refine kd_' ?_ | refine ka_' ?_ _)); exact BK568.out⟩
        have n1_ : Aside0 (Below w.heap.size w ((((w37.setCell ⟨gb568, 0, none⟩ (.int .i64 ((rd_T118 l0 x7_1).f0))).setCell ⟨gb568, 1, none⟩ (.int .i64 ((rd_T118 l0 x7_1).f1))).setCell ⟨gb568, 2, none⟩ (.int .i64 ((rd_T118 l0 x7_1).f2))).setCell ⟨gb568, 3, none⟩ (.int .i64 ((rd_T118 l0 x7_1).f3)))) := ⟨by repeat (first | (with_reducible first | exact HB.out | apply pa_' | apply pn_' | apply pd_' | refine pt_' ?_ GE568.out) | exact HB.out)⟩
        (try clear BK568)
        (try clear HB)
        generalize ((((w37.setCell ⟨gb568, 0, none⟩ (.int .i64 ((rd_T118 l0 x7_1).f0))).setCell ⟨gb568, 1, none⟩ (.int .i64 ((rd_T118 l0 x7_1).f1))).setCell ⟨gb568, 2, none⟩ (.int .i64 ((rd_T118 l0 x7_1).f2))).setCell ⟨gb568, 3, none⟩ (.int .i64 ((rd_T118 l0 x7_1).f3))) = w39 at n0_ n1_ ⊢
        have BK568 := n0_
        have HB := n1_
        clear n0_ n1_
        have n0_ := sk_' (kd_' BK568.out)
        have n1_ := sk_' (pd_' HB.out)
        clear BK568
        clear HB
        have BK568 := n0_
        have HB := n1_
        clear n0_ n1_
        have hq0_ : w39.cell? ⟨gb568, 0, none⟩ = some (.int .i64 ((rd_T118 l0 x7_1).f0)) := (kc_' BK568.out 0).trans rfl
        have hq1_ : w39.cell? ⟨gb568, 1, none⟩ = some (.int .i64 ((rd_T118 l0 x7_1).f1)) := (kc_' BK568.out 1).trans rfl
        have hq2_ : w39.cell? ⟨gb568, 2, none⟩ = some (.int .i64 ((rd_T118 l0 x7_1).f2)) := (kc_' BK568.out 2).trans rfl
        have hq3_ : w39.cell? ⟨gb568, 3, none⟩ = some (.int .i64 ((rd_T118 l0 x7_1).f3)) := (kc_' BK568.out 3).trans rfl
        go_quiet ((first | (go_at_call 82; apply Calls.quiet_of; ((with_reducible refine (impl_InRange.calls ((rd_T118 l0 x7_1).f0) 0 2000 true _ A5.out).mono ?_); exact fun _ _ h_ => ⟨h_.1, h_.2.out⟩)) | (go_at_call 82; apply Calls.quiet_of; ((with_reducible refine (impl_InRange.calls ((rd_T118 l0 x7_1).f1) 1 96 true _ A7.out).mono ?_); exact fun _ _ h_ => ⟨h_.1, h_.2.out⟩)) | (go_at_call 82; apply Calls.quiet_of; ((with_reducible refine (impl_InRange.calls ((rd_T118 l0 x7_1).f2) 21 108 false _ A9.out).mono ?_); exact fun _ _ h_ => ⟨h_.1, h_.2.out⟩))))
        have nBK568_ := sk_' (kn_' (w := w39) BK568.out nq)
        have nHB_ := sk_' (pn_' (W := w39) ⟨HB.out.os, HB.out.tape, HB.out.output, HB.out.size, HB.out.block⟩ nq)
        clear BK568 HB hq0_ hq1_ hq2_ hq3_
        have BK568 := nBK568_
        have HB := nHB_
        clear nBK568_ nHB_
        generalize w39.drewN nq = w40 at BK568 HB ⊢
        try go_wp2
        go_ret
        exact ⟨rfl, bm HB⟩
       replace c8 := Bool.eq_false_iff.mpr c8
       subst c8
       rw [if_neg (show ¬ (false = true) by decide)] at H
       obtain rfl := Option.some.inj H
       have p567 : 0 ≤ (x7_1 : Int) := od_' (by first | (with_reducible assumption) | assumption)
       have q567 : x7_1 < (l0.length : Int) := od_' (by first | (with_reducible assumption) | assumption)
       obtain ⟨ad567, e567, hx567_0, hx567_1, hx567_2, hx567_3⟩ := at_T118 HR0.out x7_1 p567 q567
       cases e567
       replace hx567_0 := (HB.out.cell (bq_' w _ hx567_0)).trans hx567_0
       replace hx567_1 := (HB.out.cell (bq_' w _ hx567_1)).trans hx567_1
       replace hx567_2 := (HB.out.cell (bq_' w _ hx567_2)).trans hx567_2
       replace hx567_3 := (HB.out.cell (bq_' w _ hx567_3)).trans hx567_3
       replace p567 := eq_true p567
       replace q567 := eq_true q567
       try go_wp2_with (first | ((with_reducible refine gate_dst (N := 4) rfl ?_); refine box_event ?hg (N := 4) ?hd (cs := #[.int .i64 0, .int .i64 0, .int .i64 0, .int .i64 0]) (t := 118) ?hr ?_; (case hd => rfl); (case hg => rfl); (case hr => first | (go_simp; done) | (go_simp; rfl)); intro gb568 hg w41 hbox hb; have n0_ := sk_' (pp_' (bm HB) hb); have n1_ := sk_' (hbox); have n2_ := sk_' ((by rw [hg]; exact (ps_' (bm HB)) : w.heap.size ≤ gb568)); have n3_ := sk_' ((by rw [hg]; exact (ps_' (bm HB)) : w.heap.size ≤ gb568)); clear HB; have HB := n0_; have BK568 := n1_; have GW568 := n2_; have GE568 := n3_; clear n0_ n1_ n2_ n3_; clear hb hbox hg; have hcz42_0 : w41.cell? ⟨gb568, 0, none⟩ = some (.int .i64 0) := (kc_' BK568.out 0).trans rfl; have hcz42_1 : w41.cell? ⟨gb568, 1, none⟩ = some (.int .i64 0) := (kc_' BK568.out 1).trans rfl; have hcz42_2 : w41.cell? ⟨gb568, 2, none⟩ = some (.int .i64 0) := (kc_' BK568.out 2).trans rfl; have hcz42_3 : w41.cell? ⟨gb568, 3, none⟩ = some (.int .i64 0) := (kc_' BK568.out 3).trans rfl; have hfz42_0 := kf_' BK568.out 0; have hfz42_1 := kf_' BK568.out 1; have hfz42_2 := kf_' BK568.out 2; have hfz42_3 := kf_' BK568.out 3))
       have n0_ : Aside0 (((((w41.setCell ⟨gb568, 0, none⟩ (.int .i64 ((rd_T118 l0 x7_1).f0))).setCell ⟨gb568, 1, none⟩ (.int .i64 ((rd_T118 l0 x7_1).f1))).setCell ⟨gb568, 2, none⟩ (.int .i64 ((rd_T118 l0 x7_1).f2))).setCell ⟨gb568, 3, none⟩ (.int .i64 ((rd_T118 l0 x7_1).f3))).heap[gb568]? = some (.cells #[.int .i64 ((rd_T118 l0 x7_1).f0), .int .i64 ((rd_T118 l0 x7_1).f1), .int .i64 ((rd_T118 l0 x7_1).f2), .int .i64 ((rd_T118 l0 x7_1).f3)] 118 (0, 0))) := ⟨by (with_reducible repeat (first | refine kn_' ?_ _ | refine kd_' ?_ | refine ka_' ?_ _)); refine blk_put (cs := #[.int .i64 ((rd_T118 l0 x7_1).f0), .int .i64 ((rd_T118 l0 x7_1).f1), .int .i64 ((rd_T118 l0 x7_1).f2), .int .i64 0]) ?_ 3 _ rfl; (with_reducible repeat (first | refine kn_' ?_ _ | refine kd_' ?_ | refine ka_' ?_ _)); refine blk_put (cs := #[.int .i64 ((rd_T118 l0 x7_1).f0), .int .i64 ((rd_T118 l0 x7_1).f1), .int .i64 0, .int .i64 0]) ?_ 2 _ rfl; (with_reducible repeat (first | refine kn_' ?_ _ | refine kd_' ?_ | refine ka_' ?_ _)); refine blk_put (cs := #[.int .i64 ((rd_T118 l0 x7_1).f0), .int .i64 0, .int .i64 0, .int .i64 0]) ?_ 1 _ rfl; (with_reducible repeat (first | refine kn_' ?_ _ | refine kd_' ?_ | refine ka_' ?_ _)); refine blk_put (cs := #[.int .i64 0, .int .i64 0, .int .i64 0, .int .i64 0]) ?_ 0 _ rfl; (with_reducible repeat (first | refine kn_' ?_ _ | refine kd_' ?_ | refine ka_' ?_ _)); exact BK568.out⟩
       have n1_ : Aside0 (Below w.heap.size w ((((w41.setCell ⟨gb568, 0, none⟩ (.int .i64 ((rd_T118 l0 x7_1).f0))).setCell ⟨gb568, 1, none⟩ (.int .i64 ((rd_T118 l0 x7_1).f1))).setCell ⟨gb568, 2, none⟩ (.int .i64 ((rd_T118 l0 x7_1).f2))).setCell ⟨gb568, 3, none⟩ (.int .i64 ((rd_T118 l0 x7_1).f3)))) := ⟨by repeat (first | (with_reducible first | exact HB.out | apply pa_' | apply pn_' | apply pd_' | refine pt_' ?_ GE568.out) | exact HB.out)⟩
       (try clear BK568)
       (try clear HB)
       generalize ((((w41.setCell ⟨gb568, 0, none⟩ (.int .i64 ((rd_T118 l0 x7_1).f0))).setCell ⟨gb568, 1, none⟩ (.int .i64 ((rd_T118 l0 x7_1).f1))).setCell ⟨gb568, 2, none⟩ (.int .i64 ((rd_T118 l0 x7_1).f2))).setCell ⟨gb568, 3, none⟩ (.int .i64 ((rd_T118 l0 x7_1).f3))) = w43 at n0_ n1_ ⊢
       have BK568 := n0_
       have HB := n1_
       clear n0_ n1_
       have n0_ := sk_' (kd_' BK568.out)
       have n1_ := sk_' (pd_' HB.out)
       clear BK568
       clear HB
       have BK568 := n0_
       have HB := n1_
       clear n0_ n1_
       have hq0_ : w43.cell? ⟨gb568, 0, none⟩ = some (.int .i64 ((rd_T118 l0 x7_1).f0)) := (kc_' BK568.out 0).trans rfl
       have hq1_ : w43.cell? ⟨gb568, 1, none⟩ = some (.int .i64 ((rd_T118 l0 x7_1).f1)) := (kc_' BK568.out 1).trans rfl
       have hq2_ : w43.cell? ⟨gb568, 2, none⟩ = some (.int .i64 ((rd_T118 l0 x7_1).f2)) := (kc_' BK568.out 2).trans rfl
       have hq3_ : w43.cell? ⟨gb568, 3, none⟩ = some (.int .i64 ((rd_T118 l0 x7_1).f3)) := (kc_' BK568.out 3).trans rfl
       go_quiet ((first | (go_at_call 82; apply Calls.quiet_of; ((with_reducible refine (impl_InRange.calls ((rd_T118 l0 x7_1).f0) 0 2000 true _ A5.out).mono ?_); exact fun _ _ h_ => ⟨h_.1, h_.2.out⟩)) | (go_at_call 82; apply Calls.quiet_of; ((with_reducible refine (impl_InRange.calls ((rd_T118 l0 x7_1).f1) 1 96 false _ A7.out).mono ?_); exact fun _ _ h_ => ⟨h_.1, h_.2.out⟩))))
       have nBK568_ := sk_' (kn_' (w := w43) BK568.out nq)
       have nHB_ := sk_' (pn_' (W := w43) ⟨HB.out.os, HB.out.tape, HB.out.output, HB.out.size, HB.out.block⟩ nq)
       clear BK568 HB hq0_ hq1_ hq2_ hq3_
       have BK568 := nBK568_
       have HB := nHB_
       clear nBK568_ nHB_
       generalize w43.drewN nq = w44 at BK568 HB ⊢
       try go_wp2
       go_ret
       exact ⟨rfl, bm HB⟩
      replace c6 := Bool.eq_false_iff.mpr c6
      subst c6
      rw [if_neg (show ¬ (false = true) by decide)] at H
      obtain rfl := Option.some.inj H
      have p567 : 0 ≤ (x7_1 : Int) := od_' (by first | (with_reducible assumption) | assumption)
      have q567 : x7_1 < (l0.length : Int) := od_' (by first | (with_reducible assumption) | assumption)
      obtain ⟨ad567, e567, hx567_0, hx567_1, hx567_2, hx567_3⟩ := at_T118 HR0.out x7_1 p567 q567
      cases e567
      replace hx567_0 := (HB.out.cell (bq_' w _ hx567_0)).trans hx567_0
      replace hx567_1 := (HB.out.cell (bq_' w _ hx567_1)).trans hx567_1
      replace hx567_2 := (HB.out.cell (bq_' w _ hx567_2)).trans hx567_2
      replace hx567_3 := (HB.out.cell (bq_' w _ hx567_3)).trans hx567_3
      replace p567 := eq_true p567
      replace q567 := eq_true q567
      try go_wp2_with (first | ((with_reducible refine gate_dst (N := 4) rfl ?_); refine box_event ?hg (N := 4) ?hd (cs := #[.int .i64 0, .int .i64 0, .int .i64 0, .int .i64 0]) (t := 118) ?hr ?_; (case hd => rfl); (case hg => rfl); (case hr => first | (go_simp; done) | (go_simp; rfl)); intro gb568 hg w45 hbox hb; have n0_ := sk_' (pp_' (bm HB) hb); have n1_ := sk_' (hbox); have n2_ := sk_' ((by rw [hg]; exact (ps_' (bm HB)) : w.heap.size ≤ gb568)); have n3_ := sk_' ((by rw [hg]; exact (ps_' (bm HB)) : w.heap.size ≤ gb568)); clear HB; have HB := n0_; have BK568 := n1_; have GW568 := n2_; have GE568 := n3_; clear n0_ n1_ n2_ n3_; clear hb hbox hg; have hcz46_0 : w45.cell? ⟨gb568, 0, none⟩ = some (.int .i64 0) := (kc_' BK568.out 0).trans rfl; have hcz46_1 : w45.cell? ⟨gb568, 1, none⟩ = some (.int .i64 0) := (kc_' BK568.out 1).trans rfl; have hcz46_2 : w45.cell? ⟨gb568, 2, none⟩ = some (.int .i64 0) := (kc_' BK568.out 2).trans rfl; have hcz46_3 : w45.cell? ⟨gb568, 3, none⟩ = some (.int .i64 0) := (kc_' BK568.out 3).trans rfl; have hfz46_0 := kf_' BK568.out 0; have hfz46_1 := kf_' BK568.out 1; have hfz46_2 := kf_' BK568.out 2; have hfz46_3 := kf_' BK568.out 3))
      have n0_ : Aside0 (((((w45.setCell ⟨gb568, 0, none⟩ (.int .i64 ((rd_T118 l0 x7_1).f0))).setCell ⟨gb568, 1, none⟩ (.int .i64 ((rd_T118 l0 x7_1).f1))).setCell ⟨gb568, 2, none⟩ (.int .i64 ((rd_T118 l0 x7_1).f2))).setCell ⟨gb568, 3, none⟩ (.int .i64 ((rd_T118 l0 x7_1).f3))).heap[gb568]? = some (.cells #[.int .i64 ((rd_T118 l0 x7_1).f0), .int .i64 ((rd_T118 l0 x7_1).f1), .int .i64 ((rd_T118 l0 x7_1).f2), .int .i64 ((rd_T118 l0 x7_1).f3)] 118 (0, 0))) := ⟨by (with_reducible repeat (first | refine kn_' ?_ _ | refine kd_' ?_ | refine ka_' ?_ _)); refine blk_put (cs := #[.int .i64 ((rd_T118 l0 x7_1).f0), .int .i64 ((rd_T118 l0 x7_1).f1), .int .i64 ((rd_T118 l0 x7_1).f2), .int .i64 0]) ?_ 3 _ rfl; (with_reducible repeat (first | refine kn_' ?_ _ | refine kd_' ?_ | refine ka_' ?_ _)); refine blk_put (cs := #[.int .i64 ((rd_T118 l0 x7_1).f0), .int .i64 ((rd_T118 l0 x7_1).f1), .int .i64 0, .int .i64 0]) ?_ 2 _ rfl; (with_reducible repeat (first | refine kn_' ?_ _ | refine kd_' ?_ | refine ka_' ?_ _)); refine blk_put (cs := #[.int .i64 ((rd_T118 l0 x7_1).f0), .int .i64 0, .int .i64 0, .int .i64 0]) ?_ 1 _ rfl; (with_reducible repeat (first | refine kn_' ?_ _ | refine kd_' ?_ | refine ka_' ?_ _)); refine blk_put (cs := #[.int .i64 0, .int .i64 0, .int .i64 0, .int .i64 0]) ?_ 0 _ rfl; (with_reducible repeat (first | refine kn_' ?_ _ | refine kd_' ?_ | refine ka_' ?_ _)); exact BK568.out⟩
      have n1_ : Aside0 (Below w.heap.size w ((((w45.setCell ⟨gb568, 0, none⟩ (.int .i64 ((rd_T118 l0 x7_1).f0))).setCell ⟨gb568, 1, none⟩ (.int .i64 ((rd_T118 l0 x7_1).f1))).setCell ⟨gb568, 2, none⟩ (.int .i64 ((rd_T118 l0 x7_1).f2))).setCell ⟨gb568, 3, none⟩ (.int .i64 ((rd_T118 l0 x7_1).f3)))) := ⟨by repeat (first | (with_reducible first | exact HB.out | apply pa_' | apply pn_' | apply pd_' | refine pt_' ?_ GE568.out) | exact HB.out)⟩
      (try clear BK568)
      (try clear HB)
      generalize ((((w45.setCell ⟨gb568, 0, none⟩ (.int .i64 ((rd_T118 l0 x7_1).f0))).setCell ⟨gb568, 1, none⟩ (.int .i64 ((rd_T118 l0 x7_1).f1))).setCell ⟨gb568, 2, none⟩ (.int .i64 ((rd_T118 l0 x7_1).f2))).setCell ⟨gb568, 3, none⟩ (.int .i64 ((rd_T118 l0 x7_1).f3))) = w47 at n0_ n1_ ⊢
      have BK568 := n0_
      have HB := n1_
      clear n0_ n1_
      have n0_ := sk_' (kd_' BK568.out)
      have n1_ := sk_' (pd_' HB.out)
      clear BK568
      clear HB
      have BK568 := n0_
      have HB := n1_
      clear n0_ n1_
      have hq0_ : w47.cell? ⟨gb568, 0, none⟩ = some (.int .i64 ((rd_T118 l0 x7_1).f0)) := (kc_' BK568.out 0).trans rfl
      have hq1_ : w47.cell? ⟨gb568, 1, none⟩ = some (.int .i64 ((rd_T118 l0 x7_1).f1)) := (kc_' BK568.out 1).trans rfl
      have hq2_ : w47.cell? ⟨gb568, 2, none⟩ = some (.int .i64 ((rd_T118 l0 x7_1).f2)) := (kc_' BK568.out 2).trans rfl
      have hq3_ : w47.cell? ⟨gb568, 3, none⟩ = some (.int .i64 ((rd_T118 l0 x7_1).f3)) := (kc_' BK568.out 3).trans rfl
      go_quiet ((first | (go_at_call 82; apply Calls.quiet_of; ((with_reducible refine (impl_InRange.calls ((rd_T118 l0 x7_1).f0) 0 2000 false _ A5.out).mono ?_); exact fun _ _ h_ => ⟨h_.1, h_.2.out⟩))))
      have nBK568_ := sk_' (kn_' (w := w47) BK568.out nq)
      have nHB_ := sk_' (pn_' (W := w47) ⟨HB.out.os, HB.out.tape, HB.out.output, HB.out.size, HB.out.block⟩ nq)
      clear BK568 HB hq0_ hq1_ hq2_ hq3_
      have BK568 := nBK568_
      have HB := nHB_
      clear nBK568_ nHB_
      generalize w47.drewN nq = w48 at BK568 HB ⊢
      try go_wp2
      go_ret
      exact ⟨rfl, bm HB⟩
     rw [if_neg c4] at H
     exact absurd H (by simp)
    rw [if_neg c3] at H
    exact absurd H (by simp)
   rw [if_neg c2] at H
   have c2b0 : decide (x7_1 < (l0.length : Int)) = false := decide_eq_false c2
   clear c2
   obtain rfl := Option.some.inj H
   go_wp2
   go_ret
   exact ⟨rfl, bm HB⟩
end Go.Proofs.Ytiophiipmgpaeaa.F

namespace Go.Proofs.Ytiophiipmgpaeaa.F
open Go.RowKit Go.Proofs.YtiophiipmgpaeaaW.PrintWords Go.Proofs.YtiophiipmgpaeaaW.PrintLast Go.Proofs.YtiophiipmgpaeaaW.PrintMore
attribute [local go_sem] max2_int min2_int max_two min_two max_three min_three max_four min_four
set_option linter.unusedVariables false
set_option linter.unusedSimpArgs false
def impl_IsTempo.l0 : Nat → List (S140) → List (S140) → Int → Int → Option (Bool)
 | 0, _, _, _, _ => none
 | k + 1, x0, x5, x6, x7 => if x7 < x6 then (if 0 ≤ x7 then (if x7 < (x5.length : Int) then (if x7 = 0 then (if ((rd_T140 x5 x7).f0) = 0 then (if x7 > 0 then (if 0 ≤ (wrap64 (x7 - 1)) then (if (wrap64 (x7 - 1)) < (x0.length : Int) then (if ((rd_T140 x0 (wrap64 (x7 - 1))).f0) ≥ ((rd_T140 x5 x7).f0) then (some false) else (if ((rd_T140 x5 x7).f0) > 2000 then (some false) else ((impl_InRange.f ((rd_T140 x5 x7).f1) 20 300).bind fun t1095 => (if t1095 = true then (impl_IsTempo.l0 k x0 x5 x6 (wrap64 (x7 + 1))) else (some false))))) else (none)) else (none)) else (if ((rd_T140 x5 x7).f0) > 2000 then (some false) else ((impl_InRange.f ((rd_T140 x5 x7).f1) 20 300).bind fun t1096 => (if t1096 = true then (impl_IsTempo.l0 k x0 x5 x6 (wrap64 (x7 + 1))) else (some false))))) else (some false)) else (if x7 > 0 then (if 0 ≤ (wrap64 (x7 - 1)) then (if (wrap64 (x7 - 1)) < (x0.length : Int) then (if ((rd_T140 x0 (wrap64 (x7 - 1))).f0) ≥ ((rd_T140 x5 x7).f0) then (some false) else (if ((rd_T140 x5 x7).f0) > 2000 then (some false) else ((impl_InRange.f ((rd_T140 x5 x7).f1) 20 300).bind fun t1098 => (if t1098 = true then (impl_IsTempo.l0 k x0 x5 x6 (wrap64 (x7 + 1))) else (some false))))) else (none)) else (none)) else (if ((rd_T140 x5 x7).f0) > 2000 then (some false) else ((impl_InRange.f ((rd_T140 x5 x7).f1) 20 300).bind fun t1099 => (if t1099 = true then (impl_IsTempo.l0 k x0 x5 x6 (wrap64 (x7 + 1))) else (some false)))))) else (none)) else (none)) else ((impl_InRange.f (x0.length : Int) 1 8).bind fun t1100 => (some t1100))
def impl_IsTempo.f (k : Nat) (l0 : List (S140)) : Option (Bool) := impl_IsTempo.l0 k l0 l0 (l0.length : Int) 0
def impl_IsTempo.T4 : Bool × List (List Nat × List Nat) := (true, [([], []), ([0], [0]), ([1], [1]), ([2], [2]), ([3, 2], [2, 3]), ([4, 2], [2, 4]), ([2, 5], [2, 5]), ([6, 2], [6]), ([7], [7]), ([8, 7], [7, 8]), ([9, 7, 7], [7, 9]), ([10], [10]), ([10], [10]), ([12, 10], [10, 12]), ([11, 13, 10], [10, 11, 13]), ([14, 10], [10, 14]), ([15, 10], [10, 15]), ([10], [10]), ([17, 10], [10, 17]), ([16, 18, 10], [10, 16, 18]), ([10, 19, 7], [7, 10, 19]), ([7, 20], [7, 20]), ([21, 10], [21]), ([22], [22]), ([23, 22], [22, 23]), ([24, 22], [22, 24]), ([22, 25], [22, 25]), ([26, 22], [26]), ([27], [27]), ([28, 27], [27, 28]), ([29, 27, 27], [27, 29]), ([30, 27], [27, 30]), ([27, 31], [27, 31])])
def impl_IsTempo.B4 : List Nat := [0, 1, 3, 7, 15, 31, 63, 127, 255, 511, 1023, 2047, 2047, 6143, 16383, 32767, 65535, 2047, 133119, 524287, 1048575, 2097151, 4194303, 8388607, 16777215, 33554431, 67108863, 134217727, 268435455, 536870911, 1073741823, 2147483647, 4294967295]
theorem impl_IsTempo.tab4 : rtab .any (opsOf Try.f151 4) = impl_IsTempo.T4 := by kernel_rfl
theorem impl_IsTempo.bits4 : waitsOk impl_IsTempo.T4.2 impl_IsTempo.B4 = true := by kernel_rfl
set_option maxHeartbeats 8000000 in
set_option maxRecDepth 100000 in
theorem impl_IsTempo.calls (k : Nat) (A0 : Option Addr) (c0 : Nat) (l0 : List (S140)) (r : Bool) (w : World) (hr0 : Kd.C k140 w A0 l0.length l0) (hc0 : l0.length ≤ c0) (h : impl_IsTempo.f k l0 = some r) :
  Calls Try.prog 151 #[.slice A0 l0.length c0] w fun e w' => e = .returned (.bool r) ∧ Below w.heap.size w w' := by
 have hu140 := Try.underlying140
 have HR0 := sk_' hr0
 have HC0 := sk_' hc0
 clear hr0 hc0
 have HB := sk_' (Below.refl w.heap.size w)
 have H : (impl_IsTempo.l0 k l0 l0 (l0.length : Int) 0) = some r := h
 clear h
 have H' := sk_' H
 clear H
 go_enter Try.func151, Try.ntmps151
 go_wp2
 go_loopg [7] k (fun kq v7 w' => ∃ (x7_1 : Int), v7 = .int .i64 x7_1 ∧ Aside0 (impl_IsTempo.l0 kq l0 l0 (l0.length : Int) x7_1 = some r) ∧ Aside0 (kq ≤ k) ∧ Aside0 (Below w.heap.size w w'))
 case atStart => exact ⟨(0), rfl, H', ⟨Nat.le_refl _⟩, ⟨bm HB⟩⟩
 case round =>
  clear H'
  try clear c1
  obtain ⟨x7_1, rfl, HA, HK1, HB⟩ := hrel
  cases gk with
  | zero => exact absurd HA.out (by simp [impl_IsTempo.l0])
  | succ k1 =>
   have H := HA.out
   clear HA
   simp only [impl_IsTempo.l0] at H
   by_cases c2 : x7_1 < (l0.length : Int)
   ·
    rw [if_pos c2] at H
    have c2b0 : decide (x7_1 < (l0.length : Int)) = true := decide_eq_true c2
    clear c2
    by_cases c3 : 0 ≤ x7_1
    ·
     rw [if_pos c3] at H
     have c3b0 : decide (0 ≤ x7_1) = true := decide_eq_true c3
     clear c3
     by_cases c4 : x7_1 < (l0.length : Int)
     ·
      rw [if_pos c4] at H
      have c4b0 : decide (x7_1 < (l0.length : Int)) = true := decide_eq_true c4
      clear c4
      by_cases c5 : x7_1 = 0
      ·
       rw [if_pos c5] at H
       have c5b0 : (x7_1 == 0) = true := beq_iff_eq.mpr c5
       have c5b1 : (x7_1 != 0) = false := bne_eq_false_iff_eq.mpr c5
       clear c5
       by_cases c6 : ((rd_T140 l0 x7_1).f0) = 0
       ·
        rw [if_pos c6] at H
        have c6b0 : (((rd_T140 l0 x7_1).f0) == 0) = true := beq_iff_eq.mpr c6
        have c6b1 : (((rd_T140 l0 x7_1).f0) != 0) = false := bne_eq_false_iff_eq.mpr c6
        clear c6
        by_cases c7 : x7_1 > 0
        ·
         rw [if_pos c7] at H
         have c7b0 : decide (0 < x7_1) = true := decide_eq_true c7
         clear c7
         obtain ⟨ji8, hji8⟩ : ∃ j_ : Int, (wrap64 (x7_1 - 1)) = j_ := ⟨_, rfl⟩
         replace H : (if 0 ≤ (ji8) then (if (ji8) < (l0.length : Int) then (if ((rd_T140 l0 (ji8)).f0) ≥ ((rd_T140 l0 x7_1).f0) then (some false) else (if ((rd_T140 l0 x7_1).f0) > 2000 then (some false) else ((impl_InRange.f ((rd_T140 l0 x7_1).f1) 20 300).bind fun t1095 => (if t1095 = true then (impl_IsTempo.l0 k1 l0 l0 (l0.length : Int) (wrap64 (x7_1 + 1))) else (some false))))) else (none)) else (none)) = some r := by first | (rw [hji8] at H; exact H) | (simp only [hji8] at H ⊢; exact H)
         have hji8w : (IntKind.i64.wrap (x7_1 - 1)) = ji8 := (i64_w _).trans hji8
         by_cases c9 : 0 ≤ (ji8)
         ·
          rw [if_pos c9] at H
          have c9b0 : decide (0 ≤ (ji8)) = true := decide_eq_true c9
          clear c9
          by_cases c10 : (ji8) < (l0.length : Int)
          ·
           rw [if_pos c10] at H
           have c10b0 : decide ((ji8) < (l0.length : Int)) = true := decide_eq_true c10
           clear c10
           by_cases c11 : ((rd_T140 l0 (ji8)).f0) ≥ ((rd_T140 l0 x7_1).f0)
           ·
            rw [if_pos c11] at H
            have c11b0 : decide (((rd_T140 l0 x7_1).f0) ≤ ((rd_T140 l0 (ji8)).f0)) = true := decide_eq_true c11
            clear c11
            obtain rfl := Option.some.inj H
            have p1092 : 0 ≤ (x7_1 : Int) := od_' (by first | (with_reducible assumption) | assumption)
            have q1092 : x7_1 < (l0.length : Int) := od_' (by first | (with_reducible assumption) | assumption)
            obtain ⟨ad1092, e1092, hx1092_0, hx1092_1⟩ := at_T140 HR0.out x7_1 p1092 q1092
            cases e1092
            replace hx1092_0 := (HB.out.cell (bq_' w _ hx1092_0)).trans hx1092_0
            replace hx1092_1 := (HB.out.cell (bq_' w _ hx1092_1)).trans hx1092_1
            replace p1092 := eq_true p1092
            replace q1092 := eq_true q1092
            try go_wp2_with (first | ((with_reducible refine gate_dst (N := 4) rfl ?_); refine box_event ?hg (N := 4) ?hd (cs := #[.int .i64 0, .int .i64 0]) (t := 140) ?hr ?_; (case hd => rfl); (case hg => rfl); (case hr => first | (go_simp; done) | (go_simp; rfl)); intro gb1093 hg w12 hbox hb; have n0_ := sk_' (pp_' (bm HB) hb); have n1_ := sk_' (hbox); have n2_ := sk_' ((by rw [hg]; exact (ps_' (bm HB)) : w.heap.size ≤ gb1093)); have n3_ := sk_' ((by rw [hg]; exact (ps_' (bm HB)) : w.heap.size ≤ gb1093)); clear HB; have HB := n0_; have BK1093 := n1_; have GW1093 := n2_; have GE1093 := n3_; clear n0_ n1_ n2_ n3_; clear hb hbox hg; have hcz13_0 : w12.cell? ⟨gb1093, 0, none⟩ = some (.int .i64 0) := (kc_' BK1093.out 0).trans rfl; have hcz13_1 : w12.cell? ⟨gb1093, 1, none⟩ = some (.int .i64 0) := (kc_' BK1093.out 1).trans rfl; have hfz13_0 := kf_' BK1093.out 0; have hfz13_1 := kf_' BK1093.out 1))
            have n0_ : Aside0 (((w12.setCell ⟨gb1093, 0, none⟩ (.int .i64 ((rd_T140 l0 x7_1).f0))).setCell ⟨gb1093, 1, none⟩ (.int .i64 ((rd_T140 l0 x7_1).f1))).heap[gb1093]? = some (.cells #[.int .i64 ((rd_T140 l0 x7_1).f0), .int .i64 ((rd_T140 l0 x7_1).f1)] 140 (0, 0))) := ⟨by (with_reducible repeat (first | refine kn_' ?_ _ | refine kd_' ?_ | refine ka_' ?_ _)); refine blk_put (cs := #[.int .i64 ((rd_T140 l0 x7_1).f0), .int .i64 0]) ?_ 1 _ rfl; (with_reducible repeat (first | refine kn_' ?_ _ | refine kd_' ?_ | refine ka_' ?_ _)); refine blk_put (cs := #[.int .i64 0, .int .i64 0]) ?_ 0 _ rfl; (with_reducible repeat (first | refine kn_' ?_ _ | refine kd_' ?_ | refine ka_' ?_ _)); exact BK1093.out⟩
            have n1_ : Aside0 (Below w.heap.size w ((w12.setCell ⟨gb1093, 0, none⟩ (.int .i64 ((rd_T140 l0 x7_1).f0))).setCell ⟨gb1093, 1, none⟩ (.int .i64 ((rd_T140 l0 x7_1).f1)))) := ⟨by repeat (first | (with_reducible first | exact HB.out | apply pa_' | apply pn_' | apply pd_' | refine pt_' ?_ GE1093.out) | exact HB.out)⟩
            (try clear BK1093)
            (try clear HB)
            generalize ((w12.setCell ⟨gb1093, 0, none⟩ (.int .i64 ((rd_T140 l0 x7_1).f0))).setCell ⟨gb1093, 1, none⟩ (.int .i64 ((rd_T140 l0 x7_1).f1))) = w14 at n0_ n1_ ⊢
            have BK1093 := n0_
            have HB := n1_
            clear n0_ n1_
            have n0_ := sk_' (kd_' BK1093.out)
            have n1_ := sk_' (pd_' HB.out)
            clear BK1093
            clear HB
            have BK1093 := n0_
            have HB := n1_
            clear n0_ n1_
            have p1094 : 0 ≤ ((ji8) : Int) := od_' (by first | (with_reducible assumption) | assumption)
            have q1094 : (ji8) < (l0.length : Int) := od_' (by first | (with_reducible assumption) | assumption)
            obtain ⟨ad1094, e1094, hx1094_0, hx1094_1⟩ := at_T140 HR0.out (ji8) p1094 q1094
            have hw1094_1 := hx1094_1
            have hw1094_0 := hx1094_0
            obtain rfl : ad1092 = ad1094 := (by injection e1094)
            replace hx1094_0 := (HB.out.cell (bq_' w _ hx1094_0)).trans hx1094_0
            replace hx1094_1 := (HB.out.cell (bq_' w _ hx1094_1)).trans hx1094_1
            replace p1094 := eq_true p1094
            replace q1094 := eq_true q1094
            have hq0_ : w14.cell? ⟨gb1093, 0, none⟩ = some (.int .i64 ((rd_T140 l0 x7_1).f0)) := (kc_' BK1093.out 0).trans rfl
            have hq1_ : w14.cell? ⟨gb1093, 1, none⟩ = some (.int .i64 ((rd_T140 l0 x7_1).f1)) := (kc_' BK1093.out 1).trans rfl
            have hq2_ : w14.cell? (ad1092.add (((ji8)).toNat * 2)) = some (.int .i64 ((rd_T140 l0 (ji8)).f0)) := ((HB.out.cell (bq_' w _ hw1094_0)).trans hw1094_0)
            have hq3_ : w14.cell? ⟨(ad1092.add (((ji8)).toNat * 2)).block, (ad1092.add (((ji8)).toNat * 2)).off + 1, none⟩ = some (.int .i64 ((rd_T140 l0 (ji8)).f1)) := ((HB.out.cell (bq_' w _ hw1094_1)).trans hw1094_1)
            go_quiet (fail)
            have nBK1093_ := sk_' (kn_' (w := w14) BK1093.out nq)
            have nHB_ := sk_' (pn_' (W := w14) ⟨HB.out.os, HB.out.tape, HB.out.output, HB.out.size, HB.out.block⟩ nq)
            have nhx1094_0_ : (w14.drewN nq).cell? _ = _ := hx1094_0
            have nhx1094_1_ : (w14.drewN nq).cell? _ = _ := hx1094_1
            clear BK1093 HB hx1094_0 hx1094_1 hq0_ hq1_ hq2_ hq3_
            have BK1093 := nBK1093_
            have HB := nHB_
            have hx1094_0 := nhx1094_0_
            have hx1094_1 := nhx1094_1_
            clear nBK1093_ nHB_ nhx1094_0_ nhx1094_1_
            generalize w14.drewN nq = w15 at BK1093 HB hx1094_0 hx1094_1 ⊢
            try go_wp2
            go_ret
            exact ⟨by first | rfl | (simp [errW_none, errW_some] <;> rfl) | (simp only [← hji8]; first | rfl | (simp [errW_none, errW_some] <;> rfl)) | (simp [*, errW_none, errW_some] <;> rfl), bm HB⟩
           rw [if_neg c11] at H
           have c11b0 : decide (((rd_T140 l0 x7_1).f0) ≤ ((rd_T140 l0 (ji8)).f0)) = false := decide_eq_false c11
           clear c11
           by_cases c16 : ((rd_T140 l0 x7_1).f0) > 2000
           ·
            rw [if_pos c16] at H
            have c16b0 : decide (2000 < ((rd_T140 l0 x7_1).f0)) = true := decide_eq_true c16
            clear c16
            obtain rfl := Option.some.inj H
            have p1092 : 0 ≤ (x7_1 : Int) := od_' (by first | (with_reducible assumption) | assumption)
            have q1092 : x7_1 < (l0.length : Int) := od_' (by first | (with_reducible assumption) | assumption)
            obtain ⟨ad1092, e1092, hx1092_0, hx1092_1⟩ := at_T140 HR0.out x7_1 p1092 q1092
            cases e1092
            replace hx1092_0 := (HB.out.cell (bq_' w _ hx1092_0)).trans hx1092_0
            replace hx1092_1 := (HB.out.cell (bq_' w _ hx1092_1)).trans hx1092_1
            replace p1092 := eq_true p1092
            replace q1092 := eq_true q1092
            try go_wp2_with (first | ((with_reducible refine gate_dst (N := 4) rfl ?_); refine box_event ?hg (N := 4) ?hd (cs := #[.int .i64 0, .int .i64 0]) (t := 140) ?hr ?_; (case hd => rfl); (case hg => rfl); (case hr => first | (go_simp; done) | (go_simp; rfl)); intro gb1093 hg w17 hbox hb; have n0_ := sk_' (pp_' (bm HB) hb); have n1_ := sk_' (hbox); have n2_ := sk_' ((by rw [hg]; exact (ps_' (bm HB)) : w.heap.size ≤ gb1093)); have n3_ := sk_' ((by rw [hg]; exact (ps_' (bm HB)) : w.heap.size ≤ gb1093)); clear HB; have HB := n0_; have BK1093 := n1_; have GW1093 := n2_; have GE1093 := n3_; clear n0_ n1_ n2_ n3_; clear hb hbox hg; have hcz18_0 : w17.cell? ⟨gb1093, 0, none⟩ = some (.int .i64 0) := (kc_' BK1093.out 0).trans rfl; have hcz18_1 : w17.cell? ⟨gb1093, 1, none⟩ = some (.int .i64 0) := (kc_' BK1093.out 1).trans rfl; have hfz18_0 := kf_' BK1093.out 0; have hfz18_1 := kf_' BK1093.out 1))
            have n0_ : Aside0 (((w17.setCell ⟨gb1093, 0, none⟩ (.int .i64 ((rd_T140 l0 x7_1).f0))).setCell ⟨gb1093, 1, none⟩ (.int .i64 ((rd_T140 l0 x7_1).f1))).heap[gb1093]? = some (.cells #[.int .i64 ((rd_T140 l0 x7_1).f0), .int .i64 ((rd_T140 l0 x7_1).f1)] 140 (0, 0))) := ⟨by (with_reducible repeat (first | refine kn_' ?_ _ | refine kd_' ?_ | refine ka_' ?_ _)); refine blk_put (cs := #[.int .i64 ((rd_T140 l0 x7_1).f0), .int .i64 0]) ?_ 1 _ rfl; (with_reducible repeat (first | refine kn_' ?_ _ | refine kd_' ?_ | refine ka_' ?_ _)); refine blk_put (cs := #[.int .i64 0, .int .i64 0]) ?_ 0 _ rfl; (with_reducible repeat (first | refine kn_' ?_ _ | refine kd_' ?_ | refine ka_' ?_ _)); exact BK1093.out⟩
            have n1_ : Aside0 (Below w.heap.size w ((w17.setCell ⟨gb1093, 0, none⟩ (.int .i64 ((rd_T140 l0 x7_1).f0))).setCell ⟨gb1093, 1, none⟩ (.int .i64 ((rd_T140 l0 x7_1).f1)))) := ⟨by repeat (first | (with_reducible first | exact HB.out | apply pa_' | apply pn_' | apply pd_' | refine pt_' ?_ GE1093.out) | exact HB.out)⟩
            (try clear BK1093)
            (try clear HB)
            generalize ((w17.setCell ⟨gb1093, 0, none⟩ (.int .i64 ((rd_T140 l0 x7_1).f0))).setCell ⟨gb1093, 1, none⟩ (.int .i64 ((rd_T140 l0 x7_1).f1))) = w19 at n0_ n1_ ⊢
            have BK1093 := n0_
            have HB := n1_
            clear n0_ n1_
            have n0_ := sk_' (kd_' BK1093.out)
            have n1_ := sk_' (pd_' HB.out)
            clear BK1093
            clear HB
            have BK1093 := n0_
            have HB := n1_
            clear n0_ n1_
            have p1094 : 0 ≤ ((ji8) : Int) := od_' (by first | (with_reducible assumption) | assumption)
            have q1094 : (ji8) < (l0.length : Int) := od_' (by first | (with_reducible assumption) | assumption)
            obtain ⟨ad1094, e1094, hx1094_0, hx1094_1⟩ := at_T140 HR0.out (ji8) p1094 q1094
            have hw1094_1 := hx1094_1
            have hw1094_0 := hx1094_0
            obtain rfl : ad1092 = ad1094 := (by injection e1094)
            replace hx1094_0 := (HB.out.cell (bq_' w _ hx1094_0)).trans hx1094_0
            replace hx1094_1 := (HB.out.cell (bq_' w _ hx1094_1)).trans hx1094_1
            replace p1094 := eq_true p1094
            replace q1094 := eq_true q1094
            have hq0_ : w19.cell? ⟨gb1093, 0, none⟩ = some (.int .i64 ((rd_T140 l0 x7_1).f0)) := (kc_' BK1093.out 0).trans rfl
            have hq1_ : w19.cell? ⟨gb1093, 1, none⟩ = some (.int .i64 ((rd_T140 l0 x7_1).f1)) := (kc_' BK1093.out 1).trans rfl
            have hq2_ : w19.cell? (ad1092.add (((ji8)).toNat * 2)) = some (.int .i64 ((rd_T140 l0 (ji8)).f0)) := ((HB.out.cell (bq_' w _ hw1094_0)).trans hw1094_0)
            have hq3_ : w19.cell? ⟨(ad1092.add (((ji8)).toNat * 2)).block, (ad1092.add (((ji8)).toNat * 2)).off + 1, none⟩ = some (.int .i64 ((rd_T140 l0 (ji8)).f1)) := ((HB.out.cell (bq_' w _ hw1094_1)).trans hw1094_1)
            go_quiet (fail)
            have nBK1093_ := sk_' (kn_' (w := w19) BK1093.out nq)
            have nHB_ := sk_' (pn_' (W := w19) ⟨HB.out.os, HB.out.tape, HB.out.output, HB.out.size, HB.out.block⟩ nq)
            have nhx1094_0_ : (w19.drewN nq).cell? _ = _ := hx1094_0
            have nhx1094_1_ : (w19.drewN nq).cell? _ = _ := hx1094_1
            clear BK1093 HB hx1094_0 hx1094_1 hq0_ hq1_ hq2_ hq3_
            have BK1093 := nBK1093_
            have HB := nHB_
            have hx1094_0 := nhx1094_0_
            have hx1094_1 := nhx1094_1_
            clear nBK1093_ nHB_ nhx1094_0_ nhx1094_1_
            generalize w19.drewN nq = w20 at BK1093 HB hx1094_0 hx1094_1 ⊢
            try go_wp2
            go_ret
            exact ⟨by first | rfl | (simp [errW_none, errW_some] <;> rfl) | (simp only [← hji8]; first | rfl | (simp [errW_none, errW_some] <;> rfl)) | (simp [*, errW_none, errW_some] <;> rfl), bm HB⟩
           rw [if_neg c16] at H
           have c16b0 : decide (2000 < ((rd_T140 l0 x7_1).f0)) = false := decide_eq_false c16
           clear c16
           replace H := bs_' H
           obtain ⟨t1095, A210, H⟩ := H
           try dsimp only at H
           have A21 := sk_' A210
           clear A210
           by_cases c22 : t1095 = true
           ·
            subst c22
            rw [if_pos rfl] at H
            have H' := sk_' H
            clear H
            have p1092 : 0 ≤ (x7_1 : Int) := od_' (by first | (with_reducible assumption) | assumption)
            have q1092 : x7_1 < (l0.length : Int) := od_' (by first | (with_reducible assumption) | assumption)
            obtain ⟨ad1092, e1092, hx1092_0, hx1092_1⟩ := at_T140 HR0.out x7_1 p1092 q1092
            cases e1092
            replace hx1092_0 := (HB.out.cell (bq_' w _ hx1092_0)).trans hx1092_0
            replace hx1092_1 := (HB.out.cell (bq_' w _ hx1092_1)).trans hx1092_1
            replace p1092 := eq_true p1092
            replace q1092 := eq_true q1092
            try go_wp2_with (first | ((with_reducible refine gate_dst (N := 4) rfl ?_); refine box_event ?hg (N := 4) ?hd (cs := #[.int .i64 0, .int .i64 0]) (t := 140) ?hr ?_; (case hd => rfl); (case hg => rfl); (case hr => first | (go_simp; done) | (go_simp; rfl)); intro gb1093 hg w23 hbox hb; have n0_ := sk_' (pp_' (bm HB) hb); have n1_ := sk_' (hbox); have n2_ := sk_' ((by rw [hg]; exact (ps_' (bm HB)) : w.heap.size ≤ gb1093)); have n3_ := sk_' ((by rw [hg]; exact (ps_' (bm HB)) : w.heap.size ≤ gb1093)); clear HB; have HB := n0_; have BK1093 := n1_; have GW1093 := n2_; have GE1093 := n3_; clear n0_ n1_ n2_ n3_; clear hb hbox hg; have hcz24_0 : w23.cell? ⟨gb1093, 0, none⟩ = some (.int .i64 0) := (kc_' BK1093.out 0).trans rfl; have hcz24_1 : w23.cell? ⟨gb1093, 1, none⟩ = some (.int .i64 0) := (kc_' BK1093.out 1).trans rfl; have hfz24_0 := kf_' BK1093.out 0; have hfz24_1 := kf_' BK1093.out 1))
            have n0_ : Aside0 (((w23.setCell ⟨gb1093, 0, none⟩ (.int .i64 ((rd_T140 l0 x7_1).f0))).setCell ⟨gb1093, 1, none⟩ (.int .i64 ((rd_T140 l0 x7_1).f1))).heap[gb1093]? = some (.cells #[.int .i64 ((rd_T140 l0 x7_1).f0), .int .i64 ((rd_T140 l0 x7_1).f1)] 140 (0, 0))) := ⟨by (with_reducible repeat (first | refine kn_' ?_ _ | refine kd_' ?_ | refine ka_' ?_ _)); refine blk_put (cs := #[.int .i64 ((rd_T140 l0 x7_1).f0), .int .i64 0]) ?_ 1 _ rfl; (with_reducible repeat (first | refine kn_' ?_ _ | refine kd_' ?_ | refine ka_' ?_ _)); refine blk_put (cs := #[.int .i64 0, .int .i64 0]) ?_ 0 _ rfl; (with_reducible repeat (first | refine kn_' ?_ _ | refine kd_' ?_ | refine ka_' ?_ _)); exact BK1093.out⟩
            have n1_ : Aside0 (Below w.heap.size w ((w23.setCell ⟨gb1093, 0, none⟩ (.int .i64 ((rd_T140 l0 x7_1).f0))).setCell ⟨gb1093, 1, none⟩ (.int .i64 ((rd_T140 l0 x7_1).f1)))) := ⟨by repeat (first | (with_reducible first | exact HB.out | apply pa_' | apply pn_' | apply pd_' | refine pt_' ?_ GE1093.out) | exact HB.out)⟩
            (try clear BK1093)
            (try clear HB)
            generalize ((w23.setCell ⟨gb1093, 0, none⟩ (.int .i64 ((rd_T140 l0 x7_1).f0))).setCell ⟨gb1093, 1, none⟩ (.int .i64 ((rd_T140 l0 x7_1).f1))) = w25 at n0_ n1_ ⊢
            have BK1093 := n0_
            have HB := n1_
            clear n0_ n1_
            have n0_ := sk_' (kd_' BK1093.out)
            have n1_ := sk_' (pd_' HB.out)
            clear BK1093
            clear HB
            have BK1093 := n0_
            have HB := n1_
            clear n0_ n1_
            have p1094 : 0 ≤ ((ji8) : Int) := od_' (by first | (with_reducible assumption) | assumption)
            have q1094 : (ji8) < (l0.length : Int) := od_' (by first | (with_reducible assumption) | assumption)
            obtain ⟨ad1094, e1094, hx1094_0, hx1094_1⟩ := at_T140 HR0.out (ji8) p1094 q1094
            have hw1094_1 := hx1094_1
            have hw1094_0 := hx1094_0
            obtain rfl : ad1092 = ad1094 := (by injection e1094)
            replace hx1094_0 := (HB.out.cell (bq_' w _ hx1094_0)).trans hx1094_0
            replace hx1094_1 := (HB.out.cell (bq_' w _ hx1094_1)).trans hx1094_1
            replace p1094 := eq_true p1094
            replace q1094 := eq_true q1094
            have hq0_ : w25.cell? ⟨gb1093, 0, none⟩ = some (.int .i64 ((rd_T140 l0 x7_1).f0)) := (kc_' BK1093.out 0).trans rfl
            have hq1_ : w25.cell? ⟨gb1093, 1, none⟩ = some (.int .i64 ((rd_T140 l0 x7_1).f1)) := (kc_' BK1093.out 1).trans rfl
            have hq2_ : w25.cell? (ad1092.add (((ji8)).toNat * 2)) = some (.int .i64 ((rd_T140 l0 (ji8)).f0)) := ((HB.out.cell (bq_' w _ hw1094_0)).trans hw1094_0)
            have hq3_ : w25.cell? ⟨(ad1092.add (((ji8)).toNat * 2)).block, (ad1092.add (((ji8)).toNat * 2)).off + 1, none⟩ = some (.int .i64 ((rd_T140 l0 (ji8)).f1)) := ((HB.out.cell (bq_' w _ hw1094_1)).trans hw1094_1)
            go_quiet ((first | (go_at_call 82; apply Calls.quiet_of; ((with_reducible refine (impl_InRange.calls ((rd_T140 l0 x7_1).f1) 20 300 true _ A21.out).mono ?_); exact fun _ _ h_ => ⟨h_.1, h_.2.out⟩))))
            have nBK1093_ := sk_' (kn_' (w := w25) BK1093.out nq)
            have nHB_ := sk_' (pn_' (W := w25) ⟨HB.out.os, HB.out.tape, HB.out.output, HB.out.size, HB.out.block⟩ nq)
            have nhx1094_0_ : (w25.drewN nq).cell? _ = _ := hx1094_0
            have nhx1094_1_ : (w25.drewN nq).cell? _ = _ := hx1094_1
            clear BK1093 HB hx1094_0 hx1094_1 hq0_ hq1_ hq2_ hq3_
            have BK1093 := nBK1093_
            have HB := nHB_
            have hx1094_0 := nhx1094_0_
            have hx1094_1 := nhx1094_1_
            clear nBK1093_ nHB_ nhx1094_0_ nhx1094_1_
            generalize w25.drewN nq = w26 at BK1093 HB hx1094_0 hx1094_1 ⊢
            try go_wp2
            go_roundg k1
            case measure => have := HK1.out; omega
            case rel => exact ⟨(wrap64 (x7_1 + 1)), rfl, H', ⟨by have := HK1.out; omega⟩, ⟨bm HB⟩⟩
           replace c22 := Bool.eq_false_iff.mpr c22
           subst c22
           rw [if_neg (show ¬ (false = true) by decide)] at H
           obtain rfl := Option.some.inj H
           have p1092 : 0 ≤ (x7_1 : Int) := od_' (by first | (with_reducible assumption) | assumption)
           have q1092 : x7_1 < (l0.length : Int) := od_' (by first | (with_reducible assumption) | assumption)
           obtain ⟨ad1092, e1092, hx1092_0, hx1092_1⟩ := at_T140 HR0.out x7_1 p1092 q1092
           cases e1092
           replace hx1092_0 := (HB.out.cell (bq_' w _ hx1092_0)).trans hx1092_0
           replace hx1092_1 := (HB.out.cell (bq_' w _ hx1092_1)).trans hx1092_1
           replace p1092 := eq_true p1092
           replace q1092 := eq_true q1092
           try go_wp2_with (first | ((with_reducible refine gate_dst (N := 4) rfl ?_); refine box_event ?hg (N := 4) ?hd (cs := #[.int .i64 0, .int .i64 0]) (t := 140) ?hr ?_; (case hd => rfl); (case hg => rfl); (case hr => first | (go_simp; done) | (go_simp; rfl)); intro gb1093 hg w27 hbox hb; have n0_ := sk_' (pp_' (bm HB) hb); have n1_ := sk_' (hbox); have n2_ := sk_' ((by rw [hg]; exact (ps_' (bm HB)) : w.heap.size ≤ gb1093)); have n3_ := sk_' ((by rw [hg]; exact (ps_' (bm HB)) : w.heap.size ≤ gb1093)); clear HB; have HB := n0_; have BK1093 := n1_; have GW1093 := n2_; have GE1093 := n3_; clear n0_ n1_ n2_ n3_; clear hb hbox hg; have hcz28_0 : w27.cell? ⟨gb1093, 0, none⟩ = some (.int .i64 0) := (kc_' BK1093.out 0).trans rfl; have hcz28_1 : w27.cell? ⟨gb1093, 1, none⟩ = some (.int .i64 0) := (kc_' BK1093.out 1).trans rfl; have hfz28_0 := kf_' BK1093.out 0; have hfz28_1 := kf_' BK1093.out 1))
           have n0_ : Aside0 (((w27.setCell ⟨gb1093, 0, none⟩ (.int .i64 ((rd_T140 l0 x7_1).f0))).setCell ⟨gb1093, 1, none⟩ (.int .i64 ((rd_T140 l0 x7_1).f1))).heap[gb1093]? = some (.cells #[.int .i64 ((rd_T140 l0 x7_1).f0), .int .i64 ((rd_T140 l0 x7_1).f1)] 140 (0, 0))) := ⟨by (with_reducible repeat (first | refine kn_' ?_ _ | refine kd_' ?_ | refine ka_' ?_ _)); refine blk_put (cs := #[.int .i64 ((rd_T140 l0 x7_1).f0), .int .i64 0]) ?_ 1 _ rfl; (with_reducible repeat (first | refine kn_' ?_ _ | refine kd_' ?_ | refine ka_' ?_ _)); refine blk_put (cs := #[.int .i64 0, .int .i64 0]) ?_ 0 _ rfl; (with_reducible repeat (first | refine kn_' ?_ _ | refine kd_' ?_ | refine ka_' ?_ _)); exact BK1093.out⟩
           have n1_ : Aside0 (Below w.heap.size w ((w27.setCell ⟨gb1093, 0, none⟩ (.int .i64 ((rd_T140 l0 x7_1).f0))).setCell ⟨gb1093, 1, none⟩ (.int .i64 ((rd_T140 l0 x7_1).f1)))) := ⟨by repeat (first | (with_reducible first | exact HB.out | apply pa_' | apply pn_' | apply pd_' | refine pt_' ?_ GE1093.out) | exact HB.out)⟩
           (try clear BK1093)
           (try clear HB)
           generalize ((w27.setCell ⟨gb1093, 0, none⟩ (.int .i64 ((rd_T140 l0 x7_1).f0))).setCell ⟨gb1093, 1, none⟩ (.int .i64 ((rd_T140 l0 x7_1).f1))) = w29 at n0_ n1_ ⊢
           have BK1093 := n0_
           have HB := n1_
           clear n0_ n1_
           have n0_ := sk_' (kd_' BK1093.out)
           have n1_ := sk_' (pd_' HB.out)
           clear BK1093
           clear HB
           have BK1093 := n0_
           have HB := n1_
           clear n0_ n1_
           have p1094 : 0 ≤ ((ji8) : Int) := od_' (by first | (with_reducible assumption) | assumption)
           have q1094 : (ji8) < (l0.length : Int) := od_' (by first | (with_reducible assumption) | assumption)
           obtain ⟨ad1094, e1094, hx1094_0, hx1094_1⟩ := at_T140 HR0.out (ji8) p1094 q1094
           have hw1094_1 := hx1094_1
           have hw1094_0 := hx1094_0
           obtain rfl : ad1092 = ad1094 := (by injection e1094)
           replace hx1094_0 := (HB.out.cell (bq_' w _ hx1094_0)).trans hx1094_0
           replace hx1094_1 := (HB.out.cell (bq_' w _ hx1094_1)).trans hx1094_1
           replace p1094 := eq_true p1094
           replace q1094 := eq_true q1094
           have hq0_ : w29.cell? ⟨gb1093, 0, none⟩ = some (.int .i64 ((rd_T140 l0 x7_1).f0)) := (kc_' BK1093.out 0).trans rfl
           have hq1_ : w29.cell? ⟨gb1093, 1, none⟩ = some (.int .i64 ((rd_T140 l0 x7_1).f1)) := (kc_' BK1093.out 1).trans rfl
           have hq2_ : w29.cell? (ad1092.add (((ji8)).toNat * 2)) = some (.int .i64 ((rd_T140 l0 (ji8)).f0)) := ((HB.out.cell (bq_' w _ hw1094_0)).trans hw1094_0)
           have hq3_ : w29.cell? ⟨(ad1092.add (((ji8)).toNat * 2)).block, (ad1092.add (((ji8)).toNat * 2)).off + 1, none⟩ = some (.int .i64 ((rd_T140 l0 (ji8)).f1)) := ((HB.out.cell (bq_' w _ hw1094_1)).trans hw1094_1)
           go_quiet ((first | (go_at_call 82; apply Calls.quiet_of; ((with_reducible refine (impl_InRange.calls ((rd_T140 l0 x7_1).f1) 20 300 false _ A21.out).mono ?_); exact fun _ _ h_ => ⟨h_.1, h_.2.out⟩))))
           have nBK1093_ := sk_' (kn_' (w := w29) BK1093.out nq)
           have nHB_ := sk_' (pn_' (W := w29) ⟨HB.out.os, HB.out.tape, HB.out.output, HB.out.size, HB.out.block⟩ nq)
           have nhx1094_0_ : (w29.drewN nq).cell? _ = _ := hx1094_0
           have nhx1094_1_ : (w29.drewN nq).cell? _ = _ := hx1094_1
           clear BK1093 HB hx1094_0 hx1094_1 hq0_ hq1_ hq2_ hq3_
           have BK1093 := nBK1093_
           have HB := nHB_
           have hx1094_0 := nhx1094_0_
           have hx1094_1 := nhx1094_1_
           clear nBK1093_ nHB_ nhx1094_0_ nhx1094_1_
           generalize w29.drewN nq = w30 at BK1093 HB hx1094_0 hx1094_1 ⊢
           try go_wp2
           go_ret
           exact ⟨by first | rfl | (simp [errW_none, errW_some] <;> rfl) | (simp only [← hji8]; first | rfl | (simp [errW_none, errW_some] <;> rfl)) | (simp [*, errW_none, errW_some] <;> rfl), bm HB⟩
          rw [if_neg c10] at H
          exact absurd H (by simp)
         rw [if_neg c9] at H
         exact absurd H (by simp)
        rw [if_neg c7] at H
        have c7b0 : decide (0 < x7_1) = false := decide_eq_false c7
        clear c7
        by_cases c31 : ((rd_T140 l0 x7_1).f0) > 2000
        ·
         rw [if_pos c31] at H
         have c31b0 : decide (2000 < ((rd_T140 l0 x7_1).f0)) = true := decide_eq_true c31
         clear c31
         obtain rfl := Option.some.inj H
         have p1092 : 0 ≤ (x7_1 : Int) := od_' (by first | (with_reducible assumption) | assumption)
         have q1092 : x7_1 < (l0.length : Int) := od_' (by first | (with_reducible assumption) | assumption)
         obtain ⟨ad1092, e1092, hx1092_0, hx1092_1⟩ := at_T140 HR0.out x7_1 p1092 q1092
         cases e1092
         replace hx1092_0 := (HB.out.cell (bq_' w _ hx1092_0)).trans hx1092_0
         replace hx1092_1 := (HB.out.cell (bq_' w _ hx1092_1)).trans hx1092_1
         replace p1092 := eq_true p1092
         replace q1092 := eq_true q1092
         try go_wp2_with (first | ((with_reducible refine gate_dst (N := 4) rfl ?_); refine box_event ?hg (N := 4) ?hd (cs := #[.int .i64 0, .int .i64 0]) (t := 140) ?hr ?_; (case hd => rfl); (case hg => rfl); (case hr => first | (go_simp; done) | (go_simp; rfl)); intro gb1093 hg w32 hbox hb; have n0_ := sk_' (pp_' (bm HB) hb); have n1_ := sk_' (hbox); have n2_ := sk_' ((by rw [hg]; exact (ps_' (bm HB)) : w.heap.size ≤ gb1093)); have n3_ := sk_' ((by rw [hg]; exact (ps_' (bm HB)) : w.heap.size ≤ gb1093)); clear HB; have HB := n0_; have BK1093 := n1_; have GW1093 := n2_; have GE1093 := n3_; clear n0_ n1_ n2_ n3_; clear hb hbox hg; have hcz33_0 : w32.cell? ⟨gb1093, 0, none⟩ = some (.int .i64 0) := (kc_' BK1093.out 0).trans rfl; have hcz33_1 : w32.cell? ⟨gb1093, 1, none⟩ = some (.int .i64 0) := (kc_' BK1093.out 1).trans rfl; have hfz33_0 := kf_' BK1093.out 0; have hfz33_1 := kf_' BK1093.out 1))
         have n0_ : Aside0 (((w32.setCell ⟨gb1093, 0, none⟩ (.int .i64 ((rd_T140 l0 x7_1).f0))).setCell ⟨gb1093, 1, none⟩ (.int .i64 ((rd_T140 l0 x7_1).f1))).heap[gb1093]? = some (.cells #[.int .i64 ((rd_T140 l0 x7_1).f0), .int .i64 ((rd_T140 l0 x7_1).f1)] 140 (0, 0))) := ⟨by (with_reducible repeat (first | refine kn_' ?_ _ | refine kd_' ?_ | refine ka_' ?_ _)); refine blk_put (cs := #[.int .i64 ((rd_T140 l0 x7_1).f0), .int .i64 0]) ?_ 1 _ rfl; (with_reducible repeat (first | refine kn_' ?_ _ | refine kd_' ?_ | refine ka_' ?_ _)); refine blk_put (cs := #[.int .i64 0, .int .i64 0]) ?_ 0 _ rfl; (with_reducible repeat (first | refine kn_' ?_ _ | refine kd_' ?_ | refine ka_' ?_ _)); exact BK1093.out⟩
         have n1_ : Aside0 (Below w.heap.size w ((w32.setCell ⟨gb1093, 0, none⟩ (.int .i64 ((rd_T140 l0 x7_1).f0))).setCell ⟨gb1093, 1, none⟩ (.int .i64 ((rd_T140 l0 x7_1).f1)))) := ⟨by repeat (first | (with_reducible first | exact HB.out | apply pa_' | apply pn_' | apply pd_' | refine pt_' ?_ GE1093.out) | exact HB.out)⟩
         (try clear BK1093)
         (try clear HB)
         generalize ((w32.setCell ⟨gb1093, 0, none⟩ (.int .i64 ((rd_T140 l0 x7_1).f0))).setCell ⟨gb1093, 1, none⟩ (.int .i64 ((rd_T140 l0 x7_1).f1))) = w34 at n0_ n1_ ⊢
         have BK1093 := n0_
         have HB := n1_
         clear n0_ n1_
         have n0_ := sk_' (kd_' BK1093.out)
         have n1_ := sk_' (pd_' HB.out)
         clear BK1093
         clear HB
         have BK1093 := n0_
         have HB := n1_
         clear n0_ n1_
         have hq0_ : w34.cell? ⟨gb1093, 0, none⟩ = some (.int .i64 ((rd_T140 l0 x7_1).f0)) := (kc_' BK1093.out 0).trans rfl
         have hq1_ : w34.cell? ⟨gb1093, 1, none⟩ = some (.int .i64 ((rd_T140 l0 x7_1).f1)) := (kc_' BK1093.out 1).trans rfl
         go_quiet (fail)
         have nBK1093_ := sk_' (kn_' (w := w34) BK1093.out nq)
         have nHB_ := sk_' (pn_' (W := w34) ⟨HB.out.os, HB.out.tape, HB.out.output, HB.out.size, HB.out.block⟩ nq)
         clear BK1093 HB hq0_ hq1_
         have BK1093 := nBK1093_
         have HB := nHB_
         clear nBK1093_ nHB_
         generalize w34.drewN nq = w35 at BK1093 HB ⊢
         try go_wp2
         go_ret
         exact ⟨rfl, bm HB⟩
        rw [if_neg c31] at H
        have c31b0 : decide (2000 < ((rd_T140 l0 x7_1).f0)) = false := decide_eq_false c31
        clear c31
        replace H := bs_' H
        obtain ⟨t1096, A360, H⟩ := H
        try dsimp only at H
        have A36 := sk_' A360
        clear A360
        by_cases c37 : t1096 = true
        ·
         subst c37
         rw [if_pos rfl] at H
         have H' := sk_' H
         clear H
         have p1092 : 0 ≤ (x7_1 : Int) := od_' (by first | (with_reducible assumption) | assumption)
         have q1092 : x7_1 < (l0.length : Int) := od_' (by first | (with_reducible assumption) | assumption)
         obtain ⟨ad1092, e1092, hx1092_0, hx1092_1⟩ := at_T140 HR0.out x7_1 p1092 q1092
         cases e1092
         replace hx1092_0 := (HB.out.cell (bq_' w _ hx1092_0)).trans hx1092_0
         replace hx1092_1 := (HB.out.cell (bq_' w _ hx1092_1)).trans hx1092_1
         replace p1092 := eq_true p1092
         replace q1092 := eq_true q1092
         try go_wp2_with (first | ((with_reducible refine gate_dst (N := 4) rfl ?_); refine box_event ?hg (N := 4) ?hd (cs := #[.int .i64 0, .int .i64 0]) (t := 140) ?hr ?_; (case hd => rfl); (case hg => rfl); (case hr => first | (go_simp; done) | (go_simp; rfl)); intro gb1093 hg w38 hbox hb; have n0_ := sk_' (pp_' (bm HB) hb); have n1_ := sk_' (hbox); have n2_ := sk_' ((by rw [hg]; exact (ps_' (bm HB)) : w.heap.size ≤ gb1093)); have n3_ := sk_' ((by rw [hg]; exact (ps_' (bm HB)) : w.heap.size ≤ gb1093)); clear HB; have HB := n0_; have BK1093 := n1_; have GW1093 := n2_; have GE1093 := n3_; clear n0_ n1_ n2_ n3_; clear hb hbox hg; have hcz39_0 : w38.cell? ⟨gb1093, 0, none⟩ = some (.int .i64 0) := (kc_' BK1093.out 0).trans rfl; have hcz39_1 : w38.cell? ⟨gb1093, 1, none⟩ = some (.int .i64 0) := (kc_' BK1093.out 1).trans rfl; have hfz39_0 := kf_' BK1093.out 0; have hfz39_1 := kf_' BK1093.out 1))
         have n0_ : Aside0 (((w38.setCell ⟨gb1093, 0, none⟩ (.int .i64 ((rd_T140 l0 x7_1).f0))).setCell ⟨gb1093, 1, none⟩ (.int .i64 ((rd_T140 l0 x7_1).f1))).heap[gb1093]? = some (.cells #[.int .i64 ((rd_T140 l0 x7_1).f0), .int .i64 ((rd_T140 l0 x7_1).f1)] 140 (0, 0))) := ⟨by (with_reducible repeat (first | refine kn_' ?_ _ | refine kd_' ?_ | refine ka_' ?_ _)); refine blk_put (cs := #[.int .i64 ((rd_T140 l0 x7_1).f0), .int .i64 0]) ?_ 1 _ rfl; (with_reducible repeat (first | refine kn_' ?_ _ | refine kd_' ?_ | refine ka_' ?_ _)); refine blk_put (cs := #[.int .i64 0, .int .i64 0]) ?_ 0 _ rfl; (with_reducible repeat (first | refine kn_' ?_ _ | refine kd_' ?_ | refine ka_' ?_ _)); exact BK1093.out⟩
         have n1_ : Aside0 (Below w.heap.size w ((w38.setCell ⟨gb1093, 0, none⟩ (.int .i64 ((rd_T140 l0 x7_1).f0))).setCell ⟨gb1093, 1, none⟩ (.int .i64 ((rd_T140 l0 x7_1).f1)))) := ⟨by repeat (first | (with_reducible first | exact HB.out | apply pa_' | apply pn_' | apply pd_' | refine pt_' ?_ GE1093.out) | exact HB.out)⟩
         (try clear BK1093)
         (try clear HB)
         generalize ((w38.setCell ⟨gb1093, 0, none⟩ (.int .i64 ((rd_T140 l0 x7_1).f0))).setCell ⟨gb1093, 1, none⟩ (.int .i64 ((rd_T140 l0 x7_1).f1))) = w40 at n0_ n1_ ⊢
         have BK1093 := n0_
         have HB := n1_
         clear n0_ n1_
         have n0_ := sk_' (kd_' BK1093.out)
         have n1_ := sk_' (pd_' HB.out)
         clear BK1093
         clear HB
         have BK1093 := n0_
         have HB := n1_
         clear n0_ n1_
         have hq0_ : w40.cell? ⟨gb1093, 0, none⟩ = some (.int .i64 ((rd_T140 l0 x7_1).f0)) := (kc_' BK1093.out 0).trans rfl
         have hq1_ : w40.cell? ⟨gb1093, 1, none⟩ = some (.int .i64 ((rd_T140 l0 x7_1).f1)) := (kc_' BK1093.out 1).trans rfl
         go_quiet ((first | (go_at_call 82; apply Calls.quiet_of; ((with_reducible refine (impl_InRange.calls ((rd_T140 l0 x7_1).f1) 20 300 true _ A36.out).mono ?_); exact fun _ _ h_ => ⟨h_.1, h_.2.out⟩))))
         have nBK1093_ := sk_' (kn_' (w := w40) BK1093.out nq)
         have nHB_ := sk_' (pn_' (W := w40) ⟨HB.out.os, HB.out.tape, HB.out.output, HB.out.size, HB.out.block⟩ nq)
         clear BK1093 HB hq0_ hq1_
         have BK1093 := nBK1093_
         have HB := nHB_
         clear nBK1093_ nHB_
         generalize w40.drewN nq = w41 at BK1093 HB ⊢
         try go_wp2
         go_roundg k1
         case measure => have := HK1.out; omega
         case rel => exact ⟨(wrap64 (x7_1 + 1)), rfl, H', ⟨by have := HK1.out; omega⟩, ⟨bm HB⟩⟩
        replace c37 := Bool.eq_false_iff.mpr c37
        subst c37
        rw [if_neg (show ¬ (false = true) by decide)] at H
        obtain rfl := Option.some.inj H
        have p1092 : 0 ≤ (x7_1 : Int) := od_' (by first | (with_reducible assumption) | assumption)
        have q1092 : x7_1 < (l0.length : Int) := od_' (by first | (with_reducible assumption) | assumption)
        obtain ⟨ad1092, e1092, hx1092_0, hx1092_1⟩ := at_T140 HR0.out x7_1 p1092 q1092
        cases e1092
        replace hx1092_0 := (HB.out.cell (bq_' w _ hx1092_0)).trans hx1092_0
        replace hx1092_1 := (HB.out.cell (bq_' w _ hx1092_1)).trans hx1092_1
        replace p1092 := eq_true p1092
        replace q1092 := eq_true q1092
        try go_wp2_with (first | ((with_reducible refine gate_dst (N := 4) rfl ?_); refine box_event ?hg (N := 4) ?hd (cs := #[.int .i64 0, .int .i64 0]) (t := 140) ?hr ?_; (case hd => rfl); (case hg => rfl); (case hr => first | (go_simp; done) | (go_simp; rfl)); intro gb1093 hg w42 hbox hb; have n0_ := sk_' (pp_' (bm HB) hb); have n1_ := sk_' (hbox); have n2_ := sk_' ((by rw [hg]; exact (ps_' (bm HB)) : w.heap.size ≤ gb1093)); have n3_ := sk_' ((by rw [hg]; exact (ps_' (bm HB)) : w.heap.size ≤ gb1093)); clear HB; have HB := n0_; have BK1093 := n1_; have GW1093 := n2_; have GE1093 := n3_; clear n0_ n1_ n2_ n3_; clear hb hbox hg; have hcz43_0 : w42.cell? ⟨gb1093, 0, none⟩ = some (.int .i64 0) := (kc_' BK1093.out 0).trans rfl; have hcz43_1 : w42.cell? ⟨gb1093, 1, none⟩ = some (.int .i64 0) := (kc_' BK1093.out 1).trans rfl; have hfz43_0 := kf_' BK1093.out 0; have hfz43_1 := kf_' BK1093.out 1))
        have n0_ : Aside0 (((w42.setCell ⟨gb1093, 0, none⟩ (.int .i64 ((rd_T140 l0 x7_1).f0))).setCell ⟨gb1093, 1, none⟩ (.int .i64 ((rd_T140 l0 x7_1).f1))).heap[gb1093]? = some (.cells #[.int .i64 ((rd_T140 l0 x7_1).f0), .int .i64 ((rd_T140 l0 x7_1).f1)] 140 (0, 0))) := ⟨by (with_reducible repeat (first | refine kn_' ?_ _ | refine kd_' ?_ | refine ka_' ?_ _)); refine blk_put (cs := #[.int .i64 ((rd_T140 l0 x7_1).f0), .int .i64 0]) ?_ 1 _ rfl; (with_reducible repeat (first | refine kn_' ?_ _ | refine kd_' ?_ | refine ka_' ?_ _)); refine blk_put (cs := #[.int .i64 0, .int .i64 0]) ?_ 0 _ rfl; (with_reducible repeat (first | refine kn_' ?_ _ | refine kd_' ?_ | refine ka_' ?_ _)); exact BK1093.out⟩
        have n1_ : Aside0 (Below w.heap.size w ((w42.setCell ⟨gb1093, 0, none⟩ (.int .i64 ((rd_T140 l0 x7_1).f0))).setCell ⟨gb1093, 1, none⟩ (.int .i64 ((rd_T140 l0 x7_1).f1)))) := ⟨by repeat (first | (with_reducible first | exact HB.out | apply pa_' | apply pn_' | apply pd_' | refine pt_' ?_ GE1093.out) | exact HB.out)⟩
        (try clear BK1093)
        (try clear HB)
        generalize ((w42.setCell ⟨gb1093, 0, none⟩ (.int .i64 ((rd_T140 l0 x7_1).f0))).setCell ⟨gb1093, 1, none⟩ (.int .i64 ((rd_T140 l0 x7_1).f1))) = w44 at n0_ n1_ ⊢
        have BK1093 := n0_
        have HB := n1_
        clear n0_ n1_
        have n0_ := sk_' (kd_' BK1093.out)
        have n1_ := sk_' (pd_' HB.out)
        clear BK1093
        clear HB
        have BK1093 := n0_
        have HB := n1_
        clear n0_ n1_
        have hq0_ : w44.cell? ⟨gb1093, 0, none⟩ = some (.int .i64 ((rd_T140 l0 x7_1).f0)) := (kc_' BK1093.out 0).trans rfl
        have hq1_ : w44.cell? ⟨gb1093, 1, none⟩ = some (.int .i64 ((rd_T140 l0 x7_1).f1)) := (kc_' BK1093.out 1).trans rfl
        go_quiet ((first | (go_at_call 82; apply Calls.quiet_of; ((with_reducible refine (impl_InRange.calls ((rd_T140 l0 x7_1).f1) 20 300 false _ A36.out).mono ?_); exact fun _ _ h_ => ⟨h_.1, h_.2.out⟩))))
        have nBK1093_ := sk_' (kn_' (w := w44) BK1093.out nq)
        have nHB_ := sk_' (pn_' (W := w44) ⟨HB.out.os, HB.out.tape, HB.out.output, HB.out.size, HB.out.block⟩ nq)
        clear BK1093 HB hq0_ hq1_
        have BK1093 := nBK1093_
        have HB := nHB_
        clear nBK1093_ nHB_
        generalize w44.drewN nq = w45 at BK1093 HB ⊢
        try go_wp2
        go_ret
        exact ⟨rfl, bm HB⟩
       rw [if_neg c6] at H
       have c6b0 : (((rd_T140 l0 x7_1).f0) == 0) = false := beq_eq_false_iff_ne.mpr c6
       have c6b1 : (((rd_T140 l0 x7_1).f0) != 0) = true := bne_iff_ne.mpr c6
       obtain rfl := Option.some.inj H
       have p1092 : 0 ≤ (x7_1 : Int) := od_' (by first | (with_reducible assumption) | assumption)
       have q1092 : x7_1 < (l0.length : Int) := od_' (by first | (with_reducible assumption) | assumption)
       obtain ⟨ad1092, e1092, hx1092_0, hx1092_1⟩ := at_T140 HR0.out x7_1 p1092 q1092
       cases e1092
       replace hx1092_0 := (HB.out.cell (bq_' w _ hx1092_0)).trans hx1092_0
       replace hx1092_1 := (HB.out.cell (bq_' w _ hx1092_1)).trans hx1092_1
       replace p1092 := eq_true p1092
       replace q1092 := eq_true q1092
       try go_wp2_with (first | ((with_reducible refine gate_dst (N := 4) rfl ?_); refine box_event ?hg (N := 4) ?hd (cs := #[.int .i64 0, .int .i64 0]) (t := 140) ?hr ?_; (case hd => rfl); (case hg => rfl); (case hr => first | (go_simp; done) | (go_simp; rfl)); intro gb1093 hg w46 hbox hb; have n0_ := sk_' (pp_' (bm HB) hb); have n1_ := sk_' (hbox); have n2_ := sk_' ((by rw [hg]; exact (ps_' (bm HB)) : w.heap.size ≤ gb1093)); have n3_ := sk_' ((by rw [hg]; exact (ps_' (bm HB)) : w.heap.size ≤ gb1093)); clear HB; have HB := n0_; have BK1093 := n1_; have GW1093 := n2_; have GE1093 := n3_; clear n0_ n1_ n2_ n3_; clear hb hbox hg; have hcz47_0 : w46.cell? ⟨gb1093, 0, none⟩ = some (.int .i64 0) := (kc_' BK1093.out 0).trans rfl; have hcz47_1 : w46.cell? ⟨gb1093, 1, none⟩ = some (.int .i64 0) := (kc_' BK1093.out 1).trans rfl; have hfz47_0 := kf_' BK1093.out 0; have hfz47_1 := kf_' BK1093.out 1))
       have n0_ : Aside0 (((w46.setCell ⟨gb1093, 0, none⟩ (.int .i64 ((rd_T140 l0 x7_1).f0))).setCell ⟨gb1093, 1, none⟩ (.int .i64 ((rd_T140 l0 x7_1).f1))).heap[gb1093]? = some (.cells #[.int .i64 ((rd_T140 l0 x7_1).f0), .int .i64 ((rd_T140 l0 x7_1).f1)] 140 (0, 0))) := ⟨by (with_reducible repeat (first | refine kn_' ?_ _ | refine kd_' ?_ | refine ka_' ?_ _)); refine blk_put (cs := #[.int .i64 ((rd_T140 l0 x7_1).f0), .int .i64 0]) ?_ 1 _ rfl; (with_reducible repeat (first | refine kn_' ?_ _ | refine kd_' ?_ | refine ka_' ?_ _)); refine blk_put (cs := #[.int .i64 0, .int .i64 0]) ?_ 0 _ rfl; (with_reducible repeat (first | refine kn_' ?_ _ | refine kd_' ?_ | refine ka_' ?_ _)); exact BK1093.out⟩
       have n1_ : Aside0 (Below w.heap.size w ((w46.setCell ⟨gb1093, 0, none⟩ (.int .i64 ((rd_T140 l0 x7_1).f0))).setCell ⟨gb1093, 1, none⟩ (.int .i64 ((rd_T140 l0 x7_1).f1)))) := ⟨by repeat (first | (with_reducible first | exact HB.out | apply pa_' | apply pn_' | apply pd_' | refine pt_' ?_ GE1093.out) | exact HB.out)⟩
       (try clear BK1093)
       (try clear HB)
       generalize ((w46.setCell ⟨gb1093, 0, none⟩ (.int .i64 ((rd_T140 l0 x7_1).f0))).setCell ⟨gb1093, 1, none⟩ (.int .i64 ((rd_T140 l0 x7_1).f1))) = w48 at n0_ n1_ ⊢
       have BK1093 := n0_
       have HB := n1_
       clear n0_ n1_
       have n0_ := sk_' (kd_' BK1093.out)
       have n1_ := sk_' (pd_' HB.out)
       clear BK1093
       clear HB
       have BK1093 := n0_
       have HB := n1_
       clear n0_ n1_
       have hq0_ : w48.cell? ⟨gb1093, 0, none⟩ = some (.int .i64 ((rd_T140 l0 x7_1).f0)) := (kc_' BK1093.out 0).trans rfl
       have hq1_ : w48.cell? ⟨gb1093, 1, none⟩ = some (.int .i64 ((rd_T140 l0 x7_1).f1)) := (kc_' BK1093.out 1).trans rfl
       go_quiet (fail)
       have nBK1093_ := sk_' (kn_' (w := w48) BK1093.out nq)
       have nHB_ := sk_' (pn_' (W := w48) ⟨HB.out.os, HB.out.tape, HB.out.output, HB.out.size, HB.out.block⟩ nq)
       clear BK1093 HB hq0_ hq1_
       have BK1093 := nBK1093_
       have HB := nHB_
       clear nBK1093_ nHB_
       generalize w48.drewN nq = w49 at BK1093 HB ⊢
       try go_wp2
       go_ret
       exact ⟨rfl, bm HB⟩
      rw [if_neg c5] at H
      have c5b0 : (x7_1 == 0) = false := beq_eq_false_iff_ne.mpr c5
      have c5b1 : (x7_1 != 0) = true := bne_iff_ne.mpr c5
      by_cases c50 : x7_1 > 0
      ·
       rw [if_pos c50] at H
       have c50b0 : decide (0 < x7_1) = true := decide_eq_true c50
       clear c50
       obtain ⟨ji51, hji51⟩ : ∃ j_ : Int, (wrap64 (x7_1 - 1)) = j_ := ⟨_, rfl⟩
       replace H : (if 0 ≤ (ji51) then (if (ji51) < (l0.length : Int) then (if ((rd_T140 l0 (ji51)).f0) ≥ ((rd_T140 l0 x7_1).f0) then (some false) else (if ((rd_T140 l0 x7_1).f0) > 2000 then (some false) else ((impl_InRange.f ((rd_T140 l0 x7_1).f1) 20 300).bind fun t1098 => (if t1098 = true then (impl_IsTempo.l0 k1 l0 l0 (l0.length : Int) (wrap64 (x7_1 + 1))) else (some false))))) else (none)) else (none)) = some r := by first | (rw [hji51] at H; exact H) | (simp only [hji51] at H ⊢; exact H)
       have hji51w : (IntKind.i64.wrap (x7_1 - 1)) = ji51 := (i64_w _).trans hji51
       by_cases c52 : 0 ≤ (ji51)
       ·
        rw [if_pos c52] at H
        have c52b0 : decide (0 ≤ (ji51)) = true := decide_eq_true c52
        clear c52
        by_cases c53 : (ji51) < (l0.length : Int)
        ·
         rw [if_pos c53] at H
         have c53b0 : decide ((ji51) < (l0.length : Int)) = true := decide_eq_true c53
         clear c53
         by_cases c54 : ((rd_T140 l0 (ji51)).f0) ≥ ((rd_T140 l0 x7_1).f0)
         ·
          rw [if_pos c54] at H
          have c54b0 : decide (((rd_T140 l0 x7_1).f0) ≤ ((rd_T140 l0 (ji51)).f0)) = true := decide_eq_true c54
          clear c54
          obtain rfl := Option.some.inj H
          have p1092 : 0 ≤ (x7_1 : Int) := od_' (by first | (with_reducible assumption) | assumption)
          have q1092 : x7_1 < (l0.length : Int) := od_' (by first | (with_reducible assumption) | assumption)
          obtain ⟨ad1092, e1092, hx1092_0, hx1092_1⟩ := at_T140 HR0.out x7_1 p1092 q1092
          cases e1092
          replace hx1092_0 := (HB.out.cell (bq_' w _ hx1092_0)).trans hx1092_0
          replace hx1092_1 := (HB.out.cell (bq_' w _ hx1092_1)).trans hx1092_1
          replace p1092 := eq_true p1092
          replace q1092 := eq_true q1092
          try go_wp2_with (first | ((with_reducible refine gate_dst (N := 4) rfl ?_); refine box_event ?hg (N := 4) ?hd (cs := #[.int .i64 0, .int .i64 0]) (t := 140) ?hr ?_; (case hd => rfl); (case hg => rfl); (case hr => first | (go_simp; done) | (go_simp; rfl)); intro gb1093 hg w55 hbox hb; have n0_ := sk_' (pp_' (bm HB) hb); have n1_ := sk_' (hbox); have n2_ := sk_' ((by rw [hg]; exact (ps_' (bm HB)) : w.heap.size ≤ gb1093)); have n3_ := sk_' ((by rw [hg]; exact (ps_' (bm HB)) : w.heap.size ≤ gb1093)); clear HB; have HB := n0_; have BK1093 := n1_; have GW1093 := n2_; have GE1093 := n3_; clear n0_ n1_ n2_ n3_; clear hb hbox hg; have hcz56_0 : w55.cell? ⟨gb1093, 0, none⟩ = some (.int .i64 0) := (kc_' BK1093.out 0).trans rfl; have hcz56_1 : w55.cell? ⟨gb1093, 1, none⟩ = some (.int .i64 0) := (kc_' BK1093.out 1).trans rfl; have hfz56_0 := kf_' BK1093.out 0; have hfz56_1 := kf_' BK1093.out 1))
          have n0_ : Aside0 (((w55.setCell ⟨gb1093, 0, none⟩ (.int .i64 ((rd_T140 l0 x7_1).f0))).setCell ⟨gb1093, 1, none⟩ (.int .i64 ((rd_T140 l0 x7_1).f1))).heap[gb1093]? = some (.cells #[.int .i64 ((rd_T140 l0 x7_1).f0), .int .i64 ((rd_T140 l0 x7_1).f1)] 140 (0, 0))) := ⟨by (with_reducible repeat (first | refine kn_' ?_ _ | refine kd_' ?_ | refine ka_' ?_ _)); refine blk_put (cs := #[.int .i64 ((rd_T140 l0 x7_1).f0), .int .i64 0]) ?_ 1 _ rfl; (with_reducible repeat (first | refine kn_' ?_ _ | refine kd_' ?_ | refine ka_' ?_ _)); refine blk_put (cs := #[.int .i64 0, .int .i64 0]) ?_ 0 _ rfl; (with_reducible repeat (first | refine kn_' ?_ _ | refine kd_' ?_ | refine ka_' ?_ _)); exact BK1093.out⟩
          have n1_ : Aside0 (Below w.heap.size w ((w55.setCell ⟨gb1093, 0, none⟩ (.int .i64 ((rd_T140 l0 x7_1).f0))).setCell ⟨gb1093, 1, none⟩ (.int .i64 ((rd_T140 l0 x7_1).f1)))) := ⟨by repeat (first | (with_reducible first | exact HB.out | apply pa_' | apply pn_' | apply pd_' | refine pt_' ?_ GE1093.out) | exact HB.out)⟩
          (try clear BK1093)
          (try clear HB)
          generalize ((w55.setCell ⟨gb1093, 0, none⟩ (.int .i64 ((rd_T140 l0 x7_1).f0))).setCell ⟨gb1093, 1, none⟩ (.int .i64 ((rd_T140 l0 x7_1).f1))) = w57 at n0_ n1_ ⊢
          have BK1093 := n0_
          have HB := n1_
          clear n0_ n1_
          have n0_ := sk_' (kd_' BK1093.out)
          have n1_ := sk_' (pd_' HB.out)
          clear BK1093
          clear HB
          have BK1093 := n0_
          have HB := n1_
          clear n0_ n1_
          have p1097 : 0 ≤ ((ji51) : Int) := od_' (by first | (with_reducible assumption) | assumption)
          have q1097 : (ji51) < (l0.length : Int) := od_' (by first | (with_reducible assumption) | assumption)
          obtain ⟨ad1097, e1097, hx1097_0, hx1097_1⟩ := at_T140 HR0.out (ji51) p1097 q1097
          have hw1097_1 := hx1097_1
          have hw1097_0 := hx1097_0
          obtain rfl : ad1092 = ad1097 := (by injection e1097)
          replace hx1097_0 := (HB.out.cell (bq_' w _ hx1097_0)).trans hx1097_0
          replace hx1097_1 := (HB.out.cell (bq_' w _ hx1097_1)).trans hx1097_1
          replace p1097 := eq_true p1097
          replace q1097 := eq_true q1097
          have hq0_ : w57.cell? ⟨gb1093, 0, none⟩ = some (.int .i64 ((rd_T140 l0 x7_1).f0)) := (kc_' BK1093.out 0).trans rfl
          have hq1_ : w57.cell? ⟨gb1093, 1, none⟩ = some (.int .i64 ((rd_T140 l0 x7_1).f1)) := (kc_' BK1093.out 1).trans rfl
          have hq2_ : w57.cell? (ad1092.add (((ji51)).toNat * 2)) = some (.int .i64 ((rd_T140 l0 (ji51)).f0)) := ((HB.out.cell (bq_' w _ hw1097_0)).trans hw1097_0)
          have hq3_ : w57.cell? ⟨(ad1092.add (((ji51)).toNat * 2)).block, (ad1092.add (((ji51)).toNat * 2)).off + 1, none⟩ = some (.int .i64 ((rd_T140 l0 (ji51)).f1)) := ((HB.out.cell (bq_' w _ hw1097_1)).trans hw1097_1)
          go_quiet (fail)
          have nBK1093_ := sk_' (kn_' (w := w57) BK1093.out nq)
          have nHB_ := sk_' (pn_' (W := w57) ⟨HB.out.os, HB.out.tape, HB.out.output, HB.out.size, HB.out.block⟩ nq)
          have nhx1097_0_ : (w57.drewN nq).cell? _ = _ := hx1097_0
          have nhx1097_1_ : (w57.drewN nq).cell? _ = _ := hx1097_1
          clear BK1093 HB hx1097_0 hx1097_1 hq0_ hq1_ hq2_ hq3_
          have BK1093 := nBK1093_
          have HB := nHB_
          have hx1097_0 := nhx1097_0_
          have hx1097_1 := nhx1097_1_
          clear nBK1093_ nHB_ nhx1097_0_ nhx1097_1_
          generalize w57.drewN nq = w58 at BK1093 HB hx1097_0 hx1097_1 ⊢
          try go_wp2
          go_ret
          exact ⟨by first | rfl | (simp [errW_none, errW_some] <;> rfl) | (simp only [← hji51]; first | rfl | (simp [errW_none, errW_some] <;> rfl)) | (simp [*, errW_none, errW_some] <;> rfl), bm HB⟩
         rw [if_neg c54] at H
         have c54b0 : decide (((rd_T140 l0 x7_1).f0) ≤ ((rd_T140 l0 (ji51)).f0)) = false := decide_eq_false c54
         clear c54
         by_cases c59 : ((rd_T140 l0 x7_1).f0) > 2000
         ·
          rw [if_pos c59] at H
          have c59b0 : decide (2000 < ((rd_T140 l0 x7_1).f0)) = true := decide_eq_true c59
          clear c59
          obtain rfl := Option.some.inj H
          have p1092 : 0 ≤ (x7_1 : Int) := od_' (by first | (with_reducible assumption) | assumption)
          have q1092 : x7_1 < (l0.length : Int) := od_' (by first | (with_reducible assumption) | assumption)
          obtain ⟨ad1092, e1092, hx1092_0, hx1092_1⟩ := at_T140 HR0.out x7_1 p1092 q1092
          cases e1092
          replace hx1092_0 := (HB.out.cell (bq_' w _ hx1092_0)).trans hx1092_0
          replace hx1092_1 := (HB.out.cell (bq_' w _ hx1092_1)).trans hx1092_1
          replace p1092 := eq_true p1092
          replace q1092 := eq_true q1092
          try go_wp2_with (first | ((with_reducible refine gate_dst (N := 4) rfl ?_); refine box_event ?hg (N := 4) ?hd (cs := #[.int .i64 0, .int .i64 0]) (t := 140) ?hr ?_; (case hd => rfl); (case hg => rfl); (case hr => first | (go_simp; done) | (go_simp; rfl)); intro gb1093 hg w60 hbox hb; have n0_ := sk_' (pp_' (bm HB) hb); have n1_ := sk_' (hbox); have n2_ := sk_' ((by rw [hg]; exact (ps_' (bm HB)) : w.heap.size ≤ gb1093)); have n3_ := sk_' ((by rw [hg]; exact (ps_' (bm HB)) : w.heap.size ≤ gb1093)); clear HB; have HB := n0_; have BK1093 := n1_; have GW1093 := n2_; have GE1093 := n3_; clear n0_ n1_ n2_ n3_; clear hb hbox hg; have hcz61_0 : w60.cell? ⟨gb1093, 0, none⟩ = some (.int .i64 0) := (kc_' BK1093.out 0).trans rfl; have hcz61_1 : w60.cell? ⟨gb1093, 1, none⟩ = some (.int .i64 0) := (kc_' BK1093.out 1).trans rfl; have hfz61_0 := kf_' BK1093.out 0; have hfz61_1 := kf_' BK1093.out 1))
          have n0_ : Aside0 (((w60.setCell ⟨gb1093, 0, none⟩ (.int .i64 ((rd_T140 l0 x7_1).f0))).setCell ⟨gb1093, 1, none⟩ (.int .i64 ((rd_T140 l0 x7_1).f1))).heap[gb1093]? = some (.cells #[.int .i64 ((rd_T140 l0 x7_1).f0), .int .i64 ((rd_T140 l0 x7_1).f1)] 140 (0, 0))) := ⟨by (with_reducible repeat (first | refine kn_' ?_ _ | refine kd_' ?_ | refine ka_' ?_ _)); refine blk_put (cs := #[.int .i64 ((rd_T140 l0 x7_1).f0), .int .i64 0]) ?_ 1 _ rfl; (with_reducible repeat (first | refine kn_' ?_ _ | refine kd_' ?_ | refine ka_' ?_ _)); refine blk_put (cs := #[.int .i64 0, .int .i64 0]) ?_ 0 _ rfl; (with_reducible repeat (first | refine kn_' ?_ _ | refine kd_' ?_ | refine ka_' ?_ _)); exact BK1093.out⟩
          have n1_ : Aside0 (Below w.heap.size w ((w60.setCell ⟨gb1093, 0, none⟩ (.int .i64 ((rd_T140 l0 x7_1).f0))).setCell ⟨gb1093, 1, none⟩ (.int .i64 ((rd_T140 l0 x7_1).f1)))) := ⟨by repeat (first | (with_reducible first | exact HB.out | apply pa_' | apply pn_' | apply pd_' | refine pt_' ?_ GE1093.out) | exact HB.out)⟩
          (try clear BK1093)
          (try clear HB)
          generalize ((w60.setCell ⟨gb1093, 0, none⟩ (.int .i64 ((rd_T140 l0 x7_1).f0))).setCell ⟨gb1093, 1, none⟩ (.int .i64 ((rd_T140 l0 x7_1).f1))) = w62 at n0_ n1_ ⊢
          have BK1093 := n0_
          have HB := n1_
          clear n0_ n1_
          have n0_ := sk_' (kd_' BK1093.out)
          have n1_ := sk_' (pd_' HB.out)
          clear BK1093
          clear HB
          have BK1093 := n0_
          have HB := n1_
          clear n0_ n1_
          have p1097 : 0 ≤ ((ji51) : Int) := od_' (by first | (with_reducible assumption) | assumption)
          have q1097 : (ji51) < (l0.length : Int) := od_' (by first | (with_reducible assumption) | assumption)
          obtain ⟨ad1097, e1097, hx1097_0, hx1097_1⟩ := at_T140 HR0.out (ji51) p1097 q1097
          have hw1097_1 := hx1097_1
          have hw1097_0 := hx1097_0
          obtain rfl : ad1092 = ad1097 := (by injection e1097)
          replace hx1097_0 := (HB.out.cell (bq_' w _ hx1097_0)).trans hx1097_0
          replace hx1097_1 := (HB.out.cell (bq_' w _ hx1097_1)).trans hx1097_1
          replace p1097 := eq_true p1097
          replace q1097 := eq_true q1097
          have hq0_ : w62.cell? ⟨gb1093, 0, none⟩ = some (.int .i64 ((rd_T140 l0 x7_1).f0)) := (kc_' BK1093.out 0).trans rfl
          have hq1_ : w62.cell? ⟨gb1093, 1, none⟩ = some (.int .i64 ((rd_T140 l0 x7_1).f1)) := (kc_' BK1093.out 1).trans rfl
          have hq2_ : w62.cell? (ad1092.add (((ji51)).toNat * 2)) = some (.int .i64 ((rd_T140 l0 (ji51)).f0)) := ((HB.out.cell (bq_' w _ hw1097_0)).trans hw1097_0)
          have hq3_ : w62.cell? ⟨(ad1092.add (((ji51)).toNat * 2)).block, (ad1092.add (((ji51)).toNat * 2)).off + 1, none⟩ = some (.int .i64 ((rd_T140 l0 (ji51)).f1)) := ((HB.out.cell (bq_' w _ hw1097_1)).trans hw1097_1)
          go_quiet (fail)
          have nBK1093_ := sk_' (kn_' (w := w62) BK1093.out nq)
          have nHB_ := sk_' (pn_' (W := w62) ⟨HB.out.os, HB.out.tape, HB.out.output, HB.out.size, HB.out.block⟩ nq)
          have nhx1097_0_ : (w62.drewN nq).cell? _ = _ := hx1097_0
          have nhx1097_1_ : (w62.drewN nq).cell? _ = _ := hx1097_1
          clear BK1093 HB hx1097_0 hx1097_1 hq0_ hq1_ hq2_ hq3_
          have BK1093 := nBK1093_
          have HB := nHB_
          have hx1097_0 := nhx1097_0_
          have hx1097_1 := nhx1097_1_
          clear nBK1093_ nHB_ nhx1097_0_ nhx1097_1_
          generalize w62.drewN nq = w63 at BK1093 HB hx1097_0 hx1097_1 ⊢
          try go_wp2
          go_ret
          exact ⟨by first | rfl | (simp [errW_none, errW_some] <;> rfl) | (simp only [← hji51]; first | rfl | (simp [errW_none, errW_some] <;> rfl)) | (simp [*, errW_none, errW_some] <;> rfl), bm HB⟩
         rw [if_neg c59] at H
         have c59b0 : decide (2000 < ((rd_T140 l0 x7_1).f0)) = false := decide_eq_false c59
         clear c59
         replace H := bs_' H
         obtain ⟨t1098, A640, H⟩ := H
         try dsimp only at H
         have A64 := sk_' A640
         clear A640
         by_cases c65 : t1098 = true
         ·
          subst c65
          rw [if_pos rfl] at H
          have H' := sk_' H
          clear H
          have p1092 : 0 ≤ (x7_1 : Int) := od_' (by first | (with_reducible assumption) | assumption)
          have q1092 : x7_1 < (l0.length : Int) := od_' (by first | (with_reducible assumption) | assumption)
          obtain ⟨ad1092, e1092, hx1092_0, hx1092_1⟩ := at_T140 HR0.out x7_1 p1092 q1092
          cases e1092
          replace hx1092_0 := (HB.out.cell (bq_' w _ hx1092_0)).trans hx1092_0
          replace hx1092_1 := (HB.out.cell (bq_' w _ hx1092_1)).trans hx1092_1
          replace p1092 := eq_true p1092
          replace q1092 := eq_true q1092
          try go_wp2_with (first | ((with_reducible refine gate_dst (N := 4) rfl ?_); refine box_event ?hg (N := 4) ?hd (cs := #[.int .i64 0, .int .i64 0]) (t := 140) ?hr ?_; (case hd => rfl); (case hg => rfl); (case hr => first | (go_simp; done) | (go_simp; rfl)); intro gb1093 hg w66 hbox hb; have n0_ := sk_' (pp_' (bm HB) hb); have n1_ := sk_' (hbox); have n2_ := sk_' ((by rw [hg]; exact (ps_' (bm HB)) : w.heap.size ≤ gb1093)); have n3_ := sk_' ((by rw [hg]; exact (ps_' (bm HB)) : w.heap.size ≤ gb1093)); clear HB; have HB := n0_; have BK1093 := n1_; have GW1093 := n2_; have GE1093 := n3_; clear n0_ n1_ n2_ n3_; clear hb hbox hg; have hcz67_0 : w66.cell? ⟨gb1093, 0, none⟩ = some (.int .i64 0) := (kc_' BK1093.out 0).trans rfl; have hcz67_1 : w66.cell? ⟨gb1093, 1, none⟩ = some (.int .i64 0) := (kc_' BK1093.out 1).trans rfl; have hfz67_0 := kf_' BK1093.out 0; have hfz67_1 := kf_' BK1093.out 1))
          have n0_ : Aside0 (((w66.setCell ⟨gb1093, 0, none⟩ (.int .i64 ((rd_T140 l0 x7_1).f0))).setCell ⟨gb1093, 1, none⟩ (.int .i64 ((rd_T140 l0 x7_1).f1))).heap[gb1093]? = some (.cells #[.int .i64 ((rd_T140 l0 x7_1).f0), .int .i64 ((rd_T140 l0 x7_1).f1)] 140 (0, 0))) := ⟨by (with_reducible repeat (first | refine kn_' ?_ _ | refine kd_' ?_ | refine ka_' ?_ _)); refine blk_put (cs := #[.int .i64 ((rd_T140 l0 x7_1).f0), .int .i64 0]) ?_ 1 _ rfl; (with_reducible repeat (first | refine kn_' ?_ _ | refine kd_' ?_ | refine ka_' ?_ _)); refine blk_put (cs := #[.int .i64 0, .int .i64 0]) ?_ 0 _ rfl; (with_reducible repeat (first | refine kn_' ?_ _ | refine kd_' ?_ | refine ka_' ?_ _)); exact BK1093.out⟩
          have n1_ : Aside0 (Below w.heap.size w ((w66.setCell ⟨gb1093, 0, none⟩ (.int .i64 ((rd_T140 l0 x7_1).f0))).setCell ⟨gb1093, 1, none⟩ (.int .i64 ((rd_T140 l0 x7_1).f1)))) := ⟨by repeat (first | (with_reducible first | exact HB.out | apply pa_' | apply pn_' | apply pd_' | refine pt_' ?_ GE1093.out) | exact HB.out)⟩
          (try clear BK1093)
          (try clear HB)
          generalize ((w66.setCell ⟨gb1093, 0, none⟩ (.int .i64 ((rd_T140 l0 x7_1).f0))).setCell ⟨gb1093, 1, none⟩ (.int .i64 ((rd_T140 l0 x7_1).f1))) = w68 at n0_ n1_ ⊢
          have BK1093 := n0_
          have HB := n1_
          clear n0_ n1_
          have n0_ := sk_' (kd_' BK1093.out)
          have n1_ := sk_' (pd_' HB.out)
          clear BK1093
          clear HB
          have BK1093 := n0_
          have HB := n1_
          clear n0_ n1_
          have p1097 : 0 ≤ ((ji51) : Int) := od_' (by first | (with_reducible assumption) | assumption)
          have q1097 : (ji51) < (l0.length : Int) := od_' (by first | (with_reducible assumption) | assumption)
          obtain ⟨ad1097, e1097, hx1097_0, hx1097_1⟩ := at_T140 HR0.out (ji51) p1097 q1097
          have hw1097_1 := hx1097_1
          have hw1097_0 := hx1097_0
          obtain rfl : ad1092 = ad1097 := (by injection e1097)
          replace hx1097_0 := (HB.out.cell (bq_' w _ hx1097_0)).trans hx1097_0
          replace hx1097_1 := (HB.out.cell (bq_' w _ hx1097_1)).trans hx1097_1
          replace p1097 := eq_true p1097
          replace q1097 := eq_true q1097
          have hq0_ : w68.cell? ⟨gb1093, 0, none⟩ = some (.int .i64 ((rd_T140 l0 x7_1).f0)) := (kc_' BK1093.out 0).trans rfl
          have hq1_ : w68.cell? ⟨gb1093, 1, none⟩ = some (.int .i64 ((rd_T140 l0 x7_1).f1)) := (kc_' BK1093.out 1).trans rfl
          have hq2_ : w68.cell? (ad1092.add (((ji51)).toNat * 2)) = some (.int .i64 ((rd_T140 l0 (ji51)).f0)) := ((HB.out.cell (bq_' w _ hw1097_0)).trans hw1097_0)
          have hq3_ : w68.cell? ⟨(ad1092.add (((ji51)).toNat * 2)).block, (ad1092.add (((ji51)).toNat * 2)).off + 1, none⟩ = some (.int .i64 ((rd_T140 l0 (ji51)).f1)) := ((HB.out.cell (bq_' w _ hw1097_1)).trans hw1097_1)
          go_quiet ((first | (go_at_call 82; apply Calls.quiet_of; ((with_reducible refine (impl_InRange.calls ((rd_T140 l0 x7_1).f1) 20 300 true _ A64.out).mono ?_); exact fun _ _ h_ => ⟨h_.1, h_.2.out⟩))))
          have nBK1093_ := sk_' (kn_' (w := w68) BK1093.out nq)
          have nHB_ := sk_' (pn_' (W := w68) ⟨HB.out.os, HB.out.tape, HB.out.output, HB.out.size, HB.out.block⟩ nq)
          have nhx1097_0_ : (w68.drewN nq).cell? _ = _ := hx1097_0
          have nhx1097_1_ : (w68.drewN nq).cell? _ = _ := hx1097_1
          clear BK1093 HB hx1097_0 hx1097_1 hq0_ hq1_ hq2_ hq3_
          have BK1093 := nBK1093_
          have HB := nHB_
          have hx1097_0 := nhx1097_0_
          have hx1097_1 := nhx1097_1_
          clear nBK1093_ nHB_ nhx1097_0_ nhx1097_1_
          generalize w68.drewN nq = w69 at BK1093 HB hx1097_0 hx1097_1 ⊢
          try go_wp2
          go_roundg k1
          case measure => have := HK1.out; omega
          case rel => exact ⟨(wrap64 (x7_1 + 1)), rfl, H', ⟨by have := HK1.out; omega⟩, ⟨bm HB⟩⟩
         replace c65 := Bool.eq_false_iff.mpr c65
         subst c65
         rw [if_neg (show ¬ (false = true) by decide)] at H
         obtain rfl := Option.some.inj H
         have p1092 : 0 ≤ (x7_1 : Int) := od_' (by first | (with_reducible assumption) | assumption)
         have q1092 : x7_1 < (l0.length : Int) := od_' (by first | (with_reducible assumption) | assumption)
         obtain ⟨ad1092, e1092, hx1092_0, hx1092_1⟩ := at_T140 HR0.out x7_1 p1092 q1092
         cases e1092
         replace hx1092_0 := (HB.out.cell (bq_' w _ hx1092_0)).trans hx1092_0
         replace hx1092_1 := (HB.out.cell (bq_' w _ hx1092_1)).trans hx1092_1
         replace p1092 := eq_true p1092
         replace q1092 := eq_true q1092
         try go_wp2_with (first | ((with_reducible refine gate_dst (N := 4) rfl ?_); refine box_event ?hg (N := 4) ?hd (cs := #[.int .i64 0, .int .i64 0]) (t := 140) ?hr ?_; (case hd => rfl); (case hg => rfl); (case hr => first | (go_simp; done) | (go_simp; rfl)); intro gb1093 hg w70 hbox hb; have n0_ := sk_' (pp_' (bm HB) hb); have n1_ := sk_' (hbox); have n2_ := sk_' ((by rw [hg]; exact (ps_' (bm HB)) : w.heap.size ≤ gb1093)); have n3_ := sk_' ((by rw [hg]; exact (ps_' (bm HB)) : w.heap.size ≤ gb1093)); clear HB; have HB := n0_; have BK1093 := n1_; have GW1093 := n2_; have GE1093 := n3_; clear n0_ n1_ n2_ n3_; clear hb hbox hg; have hcz71_0 : w70.cell? ⟨gb1093, 0, none⟩ = some (.int .i64 0) := (kc_' BK1093.out 0).trans rfl; have hcz71_1 : w70.cell? ⟨gb1093, 1, none⟩ = some (.int .i64 0) := (kc_' BK1093.out 1).trans rfl; have hfz71_0 := kf_' BK1093.out 0; have hfz71_1 := kf_' BK1093.out 1))
         have n0_ : Aside0 (((w70.setCell ⟨gb1093, 0, none⟩ (.int .i64 ((rd_T140 l0 x7_1).f0))).setCell ⟨gb1093, 1, none⟩ (.int .i64 ((rd_T140 l0 x7_1).f1))).heap[gb1093]? = some (.cells #[.int .i64 ((rd_T140 l0 x7_1).f0), .int .i64 ((rd_T140 l0 x7_1).f1)] 140 (0, 0))) := ⟨by (with_reducible repeat (first | refine kn_' ?_ _ | refine kd_' ?_ | refine ka_' ?_ _)); refine blk_put (cs := #[.int .i64 ((rd_T140 l0 x7_1).f0), .int .i64 0]) ?_ 1 _ rfl; (with_reducible repeat (first | refine kn_' ?_ _ | refine kd_' ?_ | refine ka_' ?_ _)); refine blk_put (cs := #[.int .i64 0, .int .i64 0]) ?_ 0 _ rfl; (with_reducible repeat (first | refine kn_' ?_ _ | refine kd_' ?_ | refine ka_' ?_ _)); exact BK1093.out⟩
         have n1_ : Aside0 (Below w.heap.size w ((w70.setCell ⟨gb1093, 0, none⟩ (.int .i64 ((rd_T140 l0 x7_1).f0))).setCell ⟨gb1093, 1, none⟩ (.int .i64 ((rd_T140 l0 x7_1).f1)))) := ⟨by repeat (first | (with_reducible first | exact HB.out | apply pa_' | apply pn_' | apply pd_' | refine pt_' ?_ GE1093.out) | exact HB.out)⟩
         (try clear BK1093)
         (try clear HB)
         generalize ((w70.setCell ⟨gb1093, 0, none⟩ (.int .i64 ((rd_T140 l0 x7_1).f0))).setCell ⟨gb1093, 1, none⟩ (.int .i64 ((rd_T140 l0 x7_1).f1))) = w72 at n0_ n1_ ⊢
         have BK1093 := n0_
         have HB := n1_
         clear n0_ n1_
         have n0_ := sk_' (kd_' BK1093.out)
         have n1_ := sk_' (pd_' HB.out)
         clear BK1093
         clear HB
         have BK1093 := n0_
         have HB := n1_
         clear n0_ n1_
         have p1097 : 0 ≤ ((ji51) : Int) := od_' (by first | (with_reducible assumption) | assumption)
         have q1097 : (ji51) < (l0.length : Int) := od_' (by first | (with_reducible assumption) | assumption)
         obtain ⟨ad1097, e1097, hx1097_0, hx1097_1⟩ := at_T140 HR0.out (ji51) p1097 q1097
         have hw1097_1 := hx1097_1
         have hw1097_0 := hx1097_0
         obtain rfl : ad1092 = ad1097 := (by injection e1097)
         replace hx1097_0 := (HB.out.cell (bq_' w _ hx1097_0)).trans hx1097_0
         replace hx1097_1 := (HB.out.cell (bq_' w _ hx1097_1)).trans hx1097_1
         replace p1097 := eq_true p1097
         replace q1097 := eq_true q1097
         have hq0_ : w72.cell? ⟨gb1093, 0, none⟩ = some (.int .i64 ((rd_T140 l0 x7_1).f0)) := (kc_' BK1093.out 0).trans rfl
         have hq1_ : w72.cell? ⟨gb1093, 1, none⟩ = some (.int .i64 ((rd_T140 l0 x7_1).f1)) := (kc_' BK1093.out 1).trans rfl
         have hq2_ : w72.cell? (ad1092.add (((ji51)).toNat * 2)) = some (.int .i64 ((rd_T140 l0 (ji51)).f0)) := ((HB.out.cell (bq_' w _ hw1097_0)).trans hw1097_0)
         have hq3_ : w72.cell? ⟨(ad1092.add (((ji51)).toNat * 2)).block, (ad1092.add (((ji51)).toNat * 2)).off + 1, none⟩ = some (.int .i64 ((rd_T140 l0 (ji51)).f1)) := ((HB.out.cell (bq_' w _ hw1097_1)).trans hw1097_1)
         go_quiet ((first | (go_at_call 82; apply Calls.quiet_of; ((with_reducible refine (impl_InRange.calls ((rd_T140 l0 x7_1).f1) 20 300 false _ A64.out).mono ?_); exact fun _ _ h_ => ⟨h_.1, h_.2.out⟩))))
         have nBK1093_ := sk_' (kn_' (w := w72) BK1093.out nq)
         have nHB_ := sk_' (pn_' (W := w72) ⟨HB.out.os, HB.out.tape, HB.out.output, HB.out.size, HB.out.block⟩ nq)
         have nhx1097_0_ : (w72.drewN nq).cell? _ = _ := hx1097_0
         have nhx1097_1_ : (w72.drewN nq).cell? _ = _ := hx1097_1
         clear BK1093 HB hx1097_0 hx1097_1 hq0_ hq1_ hq2_ hq3_
         have BK1093 := nBK1093_
         have HB := nHB_
         have hx1097_0 := nhx1097_0_
         have hx1097_1 := nhx1097_1_
         clear nBK1093_ nHB_ nhx1097_0_ nhx1097_1_
         generalize w72.drewN nq = w73 at BK1093 HB hx1097_0 hx1097_1 ⊢
         try go_wp2
         go_ret
         exact ⟨by first | rfl | (simp [errW_none, errW_some] <;> rfl) | (simp only [← hji51]; first | rfl | (simp [errW_none, errW_some] <;> rfl)) | (simp [*, errW_none, errW_some] <;> rfl), bm HB⟩
        rw [if_neg c53] at H
        exact absurd H (by simp)
       rw [if_neg c52] at H
       exact absurd H (by simp)
      rw [if_neg c50] at H
      have c50b0 : decide (0 < x7_1) = false := decide_eq_false c50
      clear c50
      by_cases c74 : ((rd_T140 l0 x7_1).f0) > 2000
      ·
       rw [if_pos c74] at H
       have c74b0 : decide (2000 < ((rd_T140 l0 x7_1).f0)) = true := decide_eq_true c74
       clear c74
       obtain rfl := Option.some.inj H
       have p1092 : 0 ≤ (x7_1 : Int) := od_' (by first | (with_reducible assumption) | assumption)
       have q1092 : x7_1 < (l0.length : Int) := od_' (by first | (with_reducible assumption) | assumption)
       obtain ⟨ad1092, e1092, hx1092_0, hx1092_1⟩ := at_T140 HR0.out x7_1 p1092 q1092
       cases e1092
       replace hx1092_0 := (HB.out.cell (bq_' w _ hx1092_0)).trans hx1092_0
       replace hx1092_1 := (HB.out.cell (bq_' w _ hx1092_1)).trans hx1092_1
       replace p1092 := eq_true p1092
       replace q1092 := eq_true q1092
       try go_wp2_with (first | ((with_reducible refine gate_dst (N := 4) rfl ?_); refine box_event ?hg (N := 4) ?hd (cs := #[.int .i64 0, .int .i64 0]) (t := 140) ?hr ?_; (case hd => rfl); (case hg => rfl); (case hr => first | (go_simp; done) | (go_simp; rfl)); intro gb1093 hg w75 hbox hb; have n0_ := sk_' (pp_' (bm HB) hb); have n1_ := sk_' (hbox); have n2_ := sk_' ((by rw [hg]; exact (ps_' (bm HB)) : w.heap.size ≤ gb1093)); have n3_ := sk_' ((by rw [hg]; exact (ps_' (bm HB)) : w.heap.size ≤ gb1093)); clear HB; have HB := n0_; have BK1093 := n1_; have GW1093 := n2_; have GE1093 := n3_; clear n0_ n1_ n2_ n3_; clear hb hbox hg; have hcz76_0 : w75.cell? ⟨gb1093, 0, none⟩ = some (.int .i64 0) := (kc_' BK1093.out 0).trans rfl; have hcz76_1 : w75.cell? ⟨gb1093, 1, none⟩ = some (.int .i64 0) := (kc_' BK1093.out 1).trans rfl; have hfz76_0 := kf_' BK1093.out 0; have hfz76_1 := kf_' BK1093.out 1))
       have n0_ : Aside0 (((w75.setCell ⟨gb1093, 0, none⟩ (.int .i64 ((rd_T140 l0 x7_1).f0))).setCell ⟨gb1093, 1, none⟩ (.int .i64 ((rd_T140 l0 x7_1).f1))).heap[gb1093]? = some (.cells #[.int .i64 ((rd_T140 l0 x7_1).f0), .int .i64 ((rd_T140 l0 x7_1).f1)] 140 (0, 0))) := ⟨by (with_reducible repeat (first | refine kn_' ?_ _ | refine kd_' ?_ | refine ka_' ?_ _)); refine blk_put (cs := #[.int .i64 ((rd_T140 l0 x7_1).f0), .int .i64 0]) ?_ 1 _ rfl; (with_reducible repeat (first | refine kn_' ?_ _ | refine kd_' ?_ | refine ka_' ?_ _)); refine blk_put (cs := #[.int .i64 0, .int .i64 0]) ?_ 0 _ rfl; (with_reducible repeat (first | refine kn_' ?_ _ | refine kd_' ?_ | refine ka_' ?_ _)); exact BK1093.out⟩
       have n1_ : Aside0 (Below w.heap.size w ((w75.setCell ⟨gb1093, 0, none⟩ (.int .i64 ((rd_T140 l0 x7_1).f0))).setCell ⟨gb1093, 1, none⟩ (.int .i64 ((rd_T140 l0 x7_1).f1)))) := ⟨by repeat (first | (with_reducible first | exact HB.out | apply pa_' | apply pn_' | apply pd_' | refine pt_' ?_ GE1093.out) | exact HB.out)⟩
       (try clear BK1093)
       (try clear HB)
       generalize ((w75.setCell ⟨gb1093, 0, none⟩ (.int .i64 ((rd_T140 l0 x7_1).f0))).setCell ⟨gb1093, 1, none⟩ (.int .i64 ((rd_T140 l0 x7_1).f1))) = w77 at n0_ n1_ ⊢
       have BK1093 := n0_
       have HB := n1_
       clear n0_ n1_
       have n0_ := sk_' (kd_' BK1093.out)
       have n1_ := sk_' (pd_' HB.out)
       clear BK1093
       clear HB
       have BK1093 := n0_
       have HB := n1_
       clear n0_ n1_
       have hq0_ : w77.cell? ⟨gb1093, 0, none⟩ = some (.int .i64 ((rd_T140 l0 x7_1).f0)) := (kc_' BK1093.out 0).trans rfl
       have hq1_ : w77.cell? ⟨gb1093, 1, none⟩ = some (.int .i64 ((rd_T140 l0 x7_1).f1)) := (kc_' BK1093.out 1).trans rfl
       go_quiet (fail)
       have nBK1093_ := sk_' (kn_' (w := w77) BK1093.out nq)
       have nHB_ := sk_' (pn_' (W := w77) ⟨HB.out.os, HB.out.tape, HB.out.output, HB.out.size, HB.out.block⟩ nq)
       clear BK1093 HB hq0_ hq1_
       have BK1093 := nBK1093_
       have HB := nHB_
       clear nBK1093_ nHB_
       generalize w77.drewN nq = w78 at BK1093 HB ⊢
       try go_wp2
       go_ret
       exact ⟨rfl, bm HB⟩
      rw [if_neg c74] at H
      have c74b0 : decide (2000 < ((rd_T140 l0 x7_1).f0)) = false := decide_eq_false c74
      clear c74
      replace H := bs_' H
      obtain ⟨t1099, A790, H⟩ := H
      try dsimp only at H
      have A79 := sk_' A790
      clear A790
      by_cases c80 : t1099 = true
      ·
       subst c80
       rw [if_pos rfl] at H
       have H' := sk_' H
       clear H
       have p1092 : 0 ≤ (x7_1 : Int) := od_' (by first | (with_reducible assumption) | assumption)
       have q1092 : x7_1 < (l0.length : Int) := od_' (by first | (with_reducible assumption) | assumption)
       obtain ⟨ad1092, e1092, hx1092_0, hx1092_1⟩ := at_T140 HR0.out x7_1 p1092 q1092
       cases e1092
       replace hx1092_0 := (HB.out.cell (bq_' w _ hx1092_0)).trans hx1092_0
       replace hx1092_1 := (HB.out.cell (bq_' w _ hx1092_1)).trans hx1092_1
       replace p1092 := eq_true p1092
       replace q1092 := eq_true q1092
       try go_wp2_with (first | ((with_reducible refine gate_dst (N := 4) rfl ?_); refine box_event ?hg (N := 4) ?hd (cs := #[.int .i64 0, .int .i64 0]) (t := 140) ?hr ?_; (case hd => rfl); (case hg => rfl); (case hr => first | (go_simp; done) | (go_simp; rfl)); intro gb1093 hg w81 hbox hb; have n0_ := sk_' (pp_' (bm HB) hb); have n1_ := sk_' (hbox); have n2_ := sk_' ((by rw [hg]; exact (ps_' (bm HB)) : w.heap.size ≤ gb1093)); have n3_ := sk_' ((by rw [hg]; exact (ps_' (bm HB)) : w.heap.size ≤ gb1093)); clear HB; have HB := n0_; have BK1093 := n1_; have GW1093 := n2_; have GE1093 := n3_; clear n0_ n1_ n2_ n3_; clear hb hbox hg; have hcz82_0 : w81.cell? ⟨gb1093, 0, none⟩ = some (.int .i64 0) := (kc_' BK1093.out 0).trans rfl; have hcz82_1 : w81.cell? ⟨gb1093, 1, none⟩ = some (.int .i64 0) := (kc_' BK1093.out 1).trans rfl; have hfz82_0 := kf_' BK1093.out 0; have hfz82_1 := kf_' BK1093.out 1))
       have n0_ : Aside0 (((w81.setCell ⟨gb1093, 0, none⟩ (.int .i64 ((rd_T140 l0 x7_1).f0))).setCell ⟨gb1093, 1, none⟩ (.int .i64 ((rd_T140 l0 x7_1).f1))).heap[gb1093]? = some (.cells #[.int .i64 ((rd_T140 l0 x7_1).f0), .int .i64 ((rd_T140 l0 x7_1).f1)] 140 (0, 0))) := ⟨by (with_reducible repeat (first | refine kn_' ?_ _ | refine kd_' ?_ | refine ka_' ?_ _)); refine blk_put (cs := #[.int .i64 ((rd_T140 l0 x7_1).f0), .int .i64 0]) ?_ 1 _ rfl; (with_reducible repeat (first | refine kn_' ?_ _ | refine kd_' ?_ | refine ka_' ?_ _)); refine blk_put (cs := #[.int .i64 0, .int .i64 0]) ?_ 0 _ rfl; (with_reducible repeat (first | refine kn_' ?_ _ | refine kd_' ?_ | refine ka_' ?_ _)); exact BK1093.out⟩
       have n1_ : Aside0 (Below w.heap.size w ((w81.setCell ⟨gb1093, 0, none⟩ (.int .i64 ((rd_T140 l0 x7_1).f0))).setCell ⟨gb1093, 1, none⟩ (.int .i64 ((rd_T140 l0 x7_1).f1)))) := ⟨by repeat (first | (with_reducible first | exact HB.out | apply pa_' | apply pn_' | apply pd_' | refine pt_' ?_ GE1093.out) | exact HB.out)⟩
       (try clear BK1093)
       (try clear HB)
       generalize ((w81.setCell ⟨gb1093, 0, none⟩ (.int .i64 ((rd_T140 l0 x7_1).f0))).setCell ⟨gb1093, 1, none⟩ (.int .i64 ((rd_T140 l0 x7_1).f1))) = w83 at n0_ n1_ ⊢
       have BK1093 := n0_
       have HB := n1_
       clear n0_ n1_
       have n0_ := sk_' (kd_' BK1093.out)
       have n1_ := sk_' (pd_' HB.out)
       clear BK1093
       clear HB
       have BK1093 := n0_
       have HB := n1_
       clear n0_ n1_
       have hq0_ : w83.cell? ⟨gb1093, 0, none⟩ = some (.int .i64 ((rd_T140 l0 x7_1).f0)) := (kc_' BK1093.out 0).trans rfl
       have hq1_ : w83.cell? ⟨gb1093, 1, none⟩ = some (.int .i64 ((rd_T140 l0 x7_1).f1)) := (kc_' BK1093.out 1).trans rfl
       go_quiet ((first | (go_at_call 82; apply Calls.quiet_of; ((with_reducible refine (impl_InRange.calls ((rd_T140 l0 x7_1).f1) 20 300 true _ A79.out).mono ?_); exact fun _ _ h_ => ⟨h_.1, h_.2.out⟩))))
       have nBK1093_ := sk_' (kn_' (w := w83) BK1093.out nq)
       have nHB_ := sk_' (pn_' (W := w83) ⟨HB.out.os, HB.out.tape, HB.out.output, HB.out.size, HB.out.block⟩ nq)
       clear BK1093 HB hq0_ hq1_
       have BK1093 := nBK1093_
       have HB := nHB_
       clear nBK1093_ nHB_
       generalize w83.drewN nq = w84 at BK1093 HB ⊢
       try go_wp2
       go_roundg k1
       case measure => have := HK1.out; omega
       case rel => exact ⟨(wrap64 (x7_1 + 1)), rfl, H', ⟨by have := HK1.out; omega⟩, ⟨bm HB⟩⟩
      replace c80 := Bool.eq_false_iff.mpr c80
      subst c80
      rw [if_neg (show ¬ (false = true) by decide)] at H
      obtain rfl := Option.some.inj H
      have p1092 : 0 ≤ (x7_1 : Int) := od_' (by first | (with_reducible assumption) | assumption)
      have q1092 : x7_1 < (l0.length : Int) := od_' (by first | (with_reducible assumption) | assumption)
      obtain ⟨ad1092, e1092, hx1092_0, hx1092_1⟩ := at_T140 HR0.out x7_1 p1092 q1092
      cases e1092
      replace hx1092_0 := (HB.out.cell (bq_' w _ hx1092_0)).trans hx1092_0
      replace hx1092_1 := (HB.out.cell (bq_' w _ hx1092_1)).trans hx1092_1
      replace p1092 := eq_true p1092
      replace q1092 := eq_true q1092
      try go_wp2_with (first | ((with_reducible refine gate_dst (N := 4) rfl ?_); refine box_event ?hg (N := 4) ?hd (cs := #[.int .i64 0, .int .i64 0]) (t := 140) ?hr ?_; (case hd => rfl); (case hg => rfl); (case hr => first | (go_simp; done) | (go_simp; rfl)); intro gb1093 hg w85 hbox hb; have n0_ := sk_' (pp_' (bm HB) hb); have n1_ := sk_' (hbox); have n2_ := sk_' ((by rw [hg]; exact (ps_' (bm HB)) : w.heap.size ≤ gb1093)); have n3_ := sk_' ((by rw [hg]; exact (ps_' (bm HB)) : w.heap.size ≤ gb1093)); clear HB; have HB := n0_; have BK1093 := n1_; have GW1093 := n2_; have GE1093 := n3_; clear n0_ n1_ n2_ n3_; clear hb hbox hg; have hcz86_0 : w85.cell? ⟨gb1093, 0, none⟩ = some (.int .i64 0) := (kc_' BK1093.out 0).trans rfl; have hcz86_1 : w85.cell? ⟨gb1093, 1, none⟩ = some (.int .i64 0) := (kc_' BK1093.out 1).trans rfl; have hfz86_0 := kf_' BK1093.out 0; have hfz86_1 := kf_' BK1093.out 1))
      have n0_ : Aside0 (((w85.setCell ⟨gb1093, 0, none⟩ (.int .i64 ((rd_T140 l0 x7_1).f0))).setCell ⟨gb1093, 1, none⟩ (.int .i64 ((rd_T140 l0 x7_1).f1))).heap[gb1093]? = some (.cells #[.int .i64 ((rd_T140 l0 x7_1).f0), .int .i64 ((rd_T140 l0 x7_1).f1)] 140 (0, 0))) := ⟨by (with_reducible repeat (first | refine kn_' ?_ _ | refine kd_' ?_ | refine ka_' ?_ _)); refine blk_put (cs := #[.int .i64 ((rd_T140 l0 x7_1).f0), .int .i64 0]) ?_ 1 _ rfl; (with_reducible repeat (first | refine kn_' ?_ _ | refine kd_' ?_ | refine ka_' ?_ _)); refine blk_put (cs := #[.int .i64 0, .int .i64 0]) ?_ 0 _ rfl; (with_reducible repeat (first | refine kn_' ?_ _ | refine kd_' ?_ | refine ka_' ?_ _)); exact BK1093.out⟩
      have n1_ : Aside0 (Below w.heap.size w ((w85.setCell ⟨gb1093, 0, none⟩ (.int .i64 ((rd_T140 l0 x7_1).f0))).setCell ⟨gb1093, 1, none⟩ (.int .i64 ((rd_T140 l0 x7_1).f1)))) := ⟨by repeat (first | (with_reducible first | exact HB.out | apply pa_' | apply pn_' | apply pd_' | refine pt_' ?_ GE1093.out) | exact HB.out)⟩
      (try clear BK1093)
      (try clear HB)
      generalize ((w85.setCell ⟨gb1093, 0, none⟩ (.int .i64 ((rd_T140 l0 x7_1).f0))).setCell ⟨gb1093, 1, none⟩ (.int .i64 ((rd_T140 l0 x7_1).f1))) = w87 at n0_ n1_ ⊢
      have BK1093 := n0_
      have HB := n1_
      clear n0_ n1_
      have n0_ := sk_' (kd_' BK1093.out)
      have n1_ := sk_' (pd_' HB.out)
      clear BK1093
      clear HB
      have BK1093 := n0_
      have HB := n1_
      clear n0_ n1_
      have hq0_ : w87.cell? ⟨gb1093, 0, none⟩ = some (.int .i64 ((rd_T140 l0 x7_1).f0)) := (kc_' BK1093.out 0).trans rfl
      have hq1_ : w87.cell? ⟨gb1093, 1, none⟩ = some (.int .i64 ((rd_T140 l0 x7_1).f1)) := (kc_' BK1093.out 1).trans rfl
      go_quiet ((first | (go_at_call 82; apply Calls.quiet_of; ((with_reducible refine (impl_InRange.calls ((rd_T140 l0 x7_1).f1) 20 300 false _ A79.out).mono ?_); exact fun _ _ h_ => ⟨h_.1, h_.2.out⟩))))
      have nBK1093_ := sk_' (kn_' (w := w87) BK1093.out nq)
      have nHB_ := sk_' (pn_' (W := w87) ⟨HB.out.os, HB.out.tape, HB.out.output, HB.out.size, HB.out.block⟩ nq)
      clear BK1093 HB hq0_ hq1_
      have BK1093 := nBK1093_
      have HB := nHB_
      clear nBK1093_ nHB_
      generalize w87.drewN nq = w88 at BK1093 HB ⊢
      try go_wp2
      go_ret
      exact ⟨rfl, bm HB⟩
     rw [if_neg c4] at H
     exact absurd H (by simp)
    rw [if_neg c3] at H
    exact absurd H (by simp)
   rw [if_neg c2] at H
   have c2b0 : decide (x7_1 < (l0.length : Int)) = false := decide_eq_false c2
   clear c2
   replace H := bs_' H
   obtain ⟨t1100, A890, H⟩ := H
   try dsimp only at H
   have A89 := sk_' A890
   clear A890
   obtain rfl := Option.some.inj H
   go_wp2_with (first | ((with_reducible refine xj_' (f := 82) rfl ?_); refine goesL_ (some 48) rfl rfl Try.func82 (by kernel_rfl) rfl #[.int .i64 (l0.length : Int), .int .i64 1, .int .i64 8] rfl (by (try simp only [xm_', xc_', xn_']); first | done | rfl | (simp only [xd_', xt_']; rfl)) ?_; (with_reducible refine (impl_InRange.calls (l0.length : Int) 1 8 t1100 _ A89.out).mono ?_); rintro e w' ⟨rfl, ⟨nd, rfl⟩⟩; refine ⟨_, rfl, ?_⟩))
   go_ret
   exact ⟨by first | rfl | (simp [errW_none, errW_some] <;> rfl) | (simp [*, errW_none, errW_some] <;> rfl), by repeat (first | (with_reducible first | exact HB.out | apply pa_' | apply pn_' | apply pd_') | exact HB.out)⟩
end Go.Proofs.Ytiophiipmgpaeaa.F

namespace Go.Proofs.Ytiophiipmgpaeaa.F
open Go.RowKit Go.Proofs.YtiophiipmgpaeaaW.PrintWords Go.Proofs.YtiophiipmgpaeaaW.PrintLast Go.Proofs.YtiophiipmgpaeaaW.PrintMore
attribute [local go_sem] max2_int min2_int max_two min_two max_three min_three max_four min_four
set_option linter.unusedVariables false
set_option linter.unusedSimpArgs false
def impl_divisor.l0 : Nat → Int → Int → Option (Int)
 | 0, _, _ => none
 | k + 1, x0, x1 => if x1 = 0 then (some x0) else (impl_divisor.l0 k x1 (Int.tmod x0 x1))
def impl_divisor.f (k : Nat) (a0 : Int) (a1 : Int) : Option (Int) := impl_divisor.l0 k a0 a1
set_option maxHeartbeats 8000000 in
set_option maxRecDepth 100000 in
theorem impl_divisor.calls (k : Nat) (a0 : Int) (a1 : Int) (r : Int) (w : World) (h : impl_divisor.f k a0 a1 = some r) :
  Calls Try.prog 179 #[.int .i64 a0, .int .i64 a1] w fun e w' => e = .returned (.int .i64 r) ∧ Drawn0 w w' := by
 have H : (impl_divisor.l0 k a0 a1) = some r := h
 clear h
 have H' := sk_' H
 clear H
 go_enter Try.func179, Try.ntmps179
 go_wp2
 repeat (go_quiet (fail); try go_wp2)
 go_loopg [0, 1] k (fun kq v0 v1 w' => ∃ (x0_1 : Int) (x1_1 : Int), v0 = .int .i64 x0_1 ∧ v1 = .int .i64 x1_1 ∧ Aside0 (impl_divisor.l0 kq x0_1 x1_1 = some r) ∧ Aside0 (kq ≤ k) ∧ Drawn0 w w')
 case atStart => exact ⟨(a0), (a1), (by first | rfl | (simp; done) | (simp [*]; done)), (by first | rfl | (simp; done) | (simp [*]; done)), H', ⟨Nat.le_refl _⟩, by repeat (first | exact Drawn0.refl _ | apply Drawn0.step)⟩
 case round =>
  clear H'
  try clear c1
  try clear p2
  obtain ⟨x0_1, x1_1, rfl, rfl, HA, HK1, ⟨m1, rfl⟩⟩ := hrel
  cases gk with
  | zero => exact absurd HA.out (by simp [impl_divisor.l0])
  | succ k1 =>
   have H := HA.out
   clear HA
   simp only [impl_divisor.l0] at H
   by_cases c3 : x1_1 = 0
   ·
    rw [if_pos c3] at H
    have c3b0 : (x1_1 == 0) = true := beq_iff_eq.mpr c3
    have c3b1 : (x1_1 != 0) = false := bne_eq_false_iff_eq.mpr c3
    clear c3
    obtain rfl := Option.some.inj H
    go_wp2
    repeat (go_quiet (fail); try go_wp2)
    go_ret
    exact ⟨by first | rfl | (simp; done) | (simp [*]; done), by repeat (first | exact Drawn0.refl _ | apply Drawn0.step)⟩
   rw [if_neg c3] at H
   have c3b0 : (x1_1 == 0) = false := beq_eq_false_iff_ne.mpr c3
   have c3b1 : (x1_1 != 0) = true := bne_iff_ne.mpr c3
   have H' := sk_' H
   clear H
   go_wp2
   repeat (go_quiet (fail); try go_wp2)
   go_roundg k1
   case measure => have := HK1.out; omega
   case rel => exact ⟨(x1_1), (Int.tmod x0_1 x1_1), (by first | rfl | (simp; done) | (simp [*]; done)), (by first | rfl | (simp; done) | (simp [*]; done)), H', ⟨by have := HK1.out; omega⟩, by repeat (first | exact Drawn0.refl _ | apply Drawn0.step)⟩
end Go.Proofs.Ytiophiipmgpaeaa.F

namespace Go.Proofs.Ytiophiipmgpaeaa.F
open Go.RowKit Go.Proofs.YtiophiipmgpaeaaW.PrintWords Go.Proofs.YtiophiipmgpaeaaW.PrintLast Go.Proofs.YtiophiipmgpaeaaW.PrintMore
attribute [local go_sem] max2_int min2_int max_two min_two max_three min_three max_four min_four
set_option linter.unusedVariables false
set_option linter.unusedSimpArgs false
def impl_IsRatio.f (k : Nat) (a0_0 : Int) (a0_1 : Int) : Option (Bool) := (impl_InRange.f a0_1 1 1000000).bind fun t1102 => (if t1102 = true then ((impl_InRange.f a0_0 (-1000000000) 1000000000).bind fun t1103 => (if t1103 = true then ((impl_divisor.f k (mx a0_0 (wrap64 (-a0_0))) a0_1).bind fun t1104 => (some (t1104 == 1))) else (some false))) else (some false))
set_option maxHeartbeats 8000000 in
set_option maxRecDepth 100000 in
theorem impl_IsRatio.calls (k : Nat) (a0_0 : Int) (a0_1 : Int) (r : Bool) (w : World) (h : impl_IsRatio.f k a0_0 a0_1 = some r) :
  Calls Try.prog 154 #[.agg #[.int .i64 a0_0, .int .i64 a0_1]] w fun e w' => e = .returned (.bool r) ∧ Below w.heap.size w w' := by
 have hu134 := Try.underlying134
 have HB := sk_' (Below.refl w.heap.size w)
 have H : ((impl_InRange.f a0_1 1 1000000).bind fun t1102 => (if t1102 = true then ((impl_InRange.f a0_0 (-1000000000) 1000000000).bind fun t1103 => (if t1103 = true then ((impl_divisor.f k (mx a0_0 (wrap64 (-a0_0))) a0_1).bind fun t1104 => (some (t1104 == 1))) else (some false))) else (some false))) = some r := h
 clear h
 replace H := bs_' H
 obtain ⟨t1102, A20, H⟩ := H
 try dsimp only at H
 have A2 := sk_' A20
 clear A20
 by_cases c3 : t1102 = true
 ·
  subst c3
  rw [if_pos rfl] at H
  replace H := bs_' H
  obtain ⟨t1103, A40, H⟩ := H
  try dsimp only at H
  have A4 := sk_' A40
  clear A40
  by_cases c5 : t1103 = true
  ·
   subst c5
   rw [if_pos rfl] at H
   obtain ⟨ji6, hji6⟩ : ∃ j_ : Int, (mx a0_0 (wrap64 (-a0_0))) = j_ := ⟨_, rfl⟩
   replace H : ((impl_divisor.f k (ji6) a0_1).bind fun t1104 => (some (t1104 == 1))) = some r := by first | (rw [hji6] at H; exact H) | (simp only [hji6] at H ⊢; exact H)
   (try rw [hji6] at A2)
   (try rw [hji6] at A4)
   have hji6_ : (if a0_0 < (wrap64 (-a0_0)) then (wrap64 (-a0_0)) else a0_0) = ji6 := hji6
   replace H := bs_' H
   obtain ⟨t1104, A70, H⟩ := H
   try dsimp only at H
   have A7 := sk_' A70
   clear A70
   obtain rfl := Option.some.inj H
   go_enter Try.func154, Try.ntmps154
   go_wp2_with (first | ((with_reducible refine gate_dst (N := 1) rfl ?_); (try (refine gate_guard (by rfl) ?_; dsimp only)); refine box_event ?hg (N := 1) ?hd (cs := #[.int .i64 a0_0, .int .i64 a0_1]) (t := 134) ?hr ?_; (case hd => rfl); (case hg => rfl); (case hr => first | (go_simp; done) | (go_simp; rfl)); intro gb1101 hg w8 hbox hb; have n0_ := sk_' (pp_' (by repeat (first | (with_reducible first | exact HB.out | apply pa_' | apply pn_' | apply pd_') | exact HB.out)) hb); have n1_ := sk_' (hbox); have n2_ := sk_' ((by rw [hg]; exact (ps_' (by repeat (first | (with_reducible first | exact HB.out | apply pa_' | apply pn_' | apply pd_') | exact HB.out))) : w.heap.size ≤ gb1101)); have n3_ := sk_' ((by rw [hg]; exact (ps_' (by repeat (first | (with_reducible first | exact HB.out | apply pa_' | apply pn_' | apply pd_') | exact HB.out))) : w.heap.size ≤ gb1101)); clear HB; have HB := n0_; have BK1101 := n1_; have GW1101 := n2_; have GE1101 := n3_; clear n0_ n1_ n2_ n3_; clear hb hbox hg; have hcz9_0 : w8.cell? ⟨gb1101, 0, none⟩ = some (.int .i64 a0_0) := (kc_' BK1101.out 0).trans rfl; have hcz9_1 : w8.cell? ⟨gb1101, 1, none⟩ = some (.int .i64 a0_1) := (kc_' BK1101.out 1).trans rfl; have hfz9_0 := kf_' BK1101.out 0; have hfz9_1 := kf_' BK1101.out 1) | ((with_reducible refine xj_' (f := 82) rfl ?_); refine goesL_ (some 5) rfl rfl Try.func82 (by kernel_rfl) rfl #[.int .i64 a0_1, .int .i64 1, .int .i64 1000000] rfl (by (try simp only [xm_', xc_', xn_']); first | done | rfl | (simp only [xd_', xt_']; rfl)) ?_; (with_reducible refine (impl_InRange.calls a0_1 1 1000000 true _ A2.out).mono ?_); rintro e w' ⟨rfl, ⟨nd, rfl⟩⟩; refine ⟨_, rfl, ?_⟩) | (go_at_call 82; (with_reducible refine (impl_InRange.calls a0_0 (-1000000000) 1000000000 true _ A4.out).mono ?_); rintro e w' ⟨rfl, ⟨nd, rfl⟩⟩) | (go_at_call 179; (with_reducible refine (impl_divisor.calls k ji6 a0_1 t1104 _ A7.out).mono ?_); rintro e w' ⟨rfl, ⟨nd, rfl⟩⟩))
   go_ret
   exact ⟨by first | rfl | (simp [errW_none, errW_some] <;> rfl) | (simp only [← hji6]; first | rfl | (simp [errW_none, errW_some] <;> rfl)) | (simp [*, errW_none, errW_some] <;> rfl), by repeat (first | (with_reducible first | exact HB.out | apply pa_' | apply pn_' | apply pd_' | refine pt_' ?_ GE1101.out) | exact HB.out)⟩
  replace c5 := Bool.eq_false_iff.mpr c5
  subst c5
  rw [if_neg (show ¬ (false = true) by decide)] at H
  obtain rfl := Option.some.inj H
  go_enter Try.func154, Try.ntmps154
  go_wp2_with (first | ((with_reducible refine gate_dst (N := 1) rfl ?_); (try (refine gate_guard (by rfl) ?_; dsimp only)); refine box_event ?hg (N := 1) ?hd (cs := #[.int .i64 a0_0, .int .i64 a0_1]) (t := 134) ?hr ?_; (case hd => rfl); (case hg => rfl); (case hr => first | (go_simp; done) | (go_simp; rfl)); intro gb1101 hg w10 hbox hb; have n0_ := sk_' (pp_' (by repeat (first | (with_reducible first | exact HB.out | apply pa_' | apply pn_' | apply pd_') | exact HB.out)) hb); have n1_ := sk_' (hbox); have n2_ := sk_' ((by rw [hg]; exact (ps_' (by repeat (first | (with_reducible first | exact HB.out | apply pa_' | apply pn_' | apply pd_') | exact HB.out))) : w.heap.size ≤ gb1101)); have n3_ := sk_' ((by rw [hg]; exact (ps_' (by repeat (first | (with_reducible first | exact HB.out | apply pa_' | apply pn_' | apply pd_') | exact HB.out))) : w.heap.size ≤ gb1101)); clear HB; have HB := n0_; have BK1101 := n1_; have GW1101 := n2_; have GE1101 := n3_; clear n0_ n1_ n2_ n3_; clear hb hbox hg; have hcz11_0 : w10.cell? ⟨gb1101, 0, none⟩ = some (.int .i64 a0_0) := (kc_' BK1101.out 0).trans rfl; have hcz11_1 : w10.cell? ⟨gb1101, 1, none⟩ = some (.int .i64 a0_1) := (kc_' BK1101.out 1).trans rfl; have hfz11_0 := kf_' BK1101.out 0; have hfz11_1 := kf_' BK1101.out 1) | ((with_reducible refine xj_' (f := 82) rfl ?_); refine goesL_ (some 5) rfl rfl Try.func82 (by kernel_rfl) rfl #[.int .i64 a0_1, .int .i64 1, .int .i64 1000000] rfl (by (try simp only [xm_', xc_', xn_']); first | done | rfl | (simp only [xd_', xt_']; rfl)) ?_; (with_reducible refine (impl_InRange.calls a0_1 1 1000000 true _ A2.out).mono ?_); rintro e w' ⟨rfl, ⟨nd, rfl⟩⟩; refine ⟨_, rfl, ?_⟩) | (go_at_call 82; (with_reducible refine (impl_InRange.calls a0_0 (-1000000000) 1000000000 false _ A4.out).mono ?_); rintro e w' ⟨rfl, ⟨nd, rfl⟩⟩))
  go_ret
  exact ⟨by first | rfl | (simp [errW_none, errW_some] <;> rfl) | (simp [*, errW_none, errW_some] <;> rfl), by repeat (first | (with_reducible first | exact HB.out | apply pa_' | apply pn_' | apply pd_' | refine pt_' ?_ GE1101.out) | exact HB.out)⟩
 replace c3 := Bool.eq_false_iff.mpr c3
 subst c3
 rw [if_neg (show ¬ (false = true) by decide)] at H
 obtain rfl := Option.some.inj H
 go_enter Try.func154, Try.ntmps154
 go_wp2_with (first | ((with_reducible refine gate_dst (N := 1) rfl ?_); (try (refine gate_guard (by rfl) ?_; dsimp only)); refine box_event ?hg (N := 1) ?hd (cs := #[.int .i64 a0_0, .int .i64 a0_1]) (t := 134) ?hr ?_; (case hd => rfl); (case hg => rfl); (case hr => first | (go_simp; done) | (go_simp; rfl)); intro gb1101 hg w12 hbox hb; have n0_ := sk_' (pp_' (by repeat (first | (with_reducible first | exact HB.out | apply pa_' | apply pn_' | apply pd_') | exact HB.out)) hb); have n1_ := sk_' (hbox); have n2_ := sk_' ((by rw [hg]; exact (ps_' (by repeat (first | (with_reducible first | exact HB.out | apply pa_' | apply pn_' | apply pd_') | exact HB.out))) : w.heap.size ≤ gb1101)); have n3_ := sk_' ((by rw [hg]; exact (ps_' (by repeat (first | (with_reducible first | exact HB.out | apply pa_' | apply pn_' | apply pd_') | exact HB.out))) : w.heap.size ≤ gb1101)); clear HB; have HB := n0_; have BK1101 := n1_; have GW1101 := n2_; have GE1101 := n3_; clear n0_ n1_ n2_ n3_; clear hb hbox hg; have hcz13_0 : w12.cell? ⟨gb1101, 0, none⟩ = some (.int .i64 a0_0) := (kc_' BK1101.out 0).trans rfl; have hcz13_1 : w12.cell? ⟨gb1101, 1, none⟩ = some (.int .i64 a0_1) := (kc_' BK1101.out 1).trans rfl; have hfz13_0 := kf_' BK1101.out 0; have hfz13_1 := kf_' BK1101.out 1) | ((with_reducible refine xj_' (f := 82) rfl ?_); refine goesL_ (some 5) rfl rfl Try.func82 (by kernel_rfl) rfl #[.int .i64 a0_1, .int .i64 1, .int .i64 1000000] rfl (by (try simp only [xm_', xc_', xn_']); first | done | rfl | (simp only [xd_', xt_']; rfl)) ?_; (with_reducible refine (impl_InRange.calls a0_1 1 1000000 false _ A2.out).mono ?_); rintro e w' ⟨rfl, ⟨nd, rfl⟩⟩; refine ⟨_, rfl, ?_⟩))
 go_ret
 exact ⟨by first | rfl | (simp [errW_none, errW_some] <;> rfl) | (simp [*, errW_none, errW_some] <;> rfl), by repeat (first | (with_reducible first | exact HB.out | apply pa_' | apply pn_' | apply pd_' | refine pt_' ?_ GE1101.out) | exact HB.out)⟩
end Go.Proofs.Ytiophiipmgpaeaa.F

namespace Go.Proofs.Ytiophiipmgpaeaa.F
open Go.RowKit Go.Proofs.YtiophiipmgpaeaaW.PrintWords Go.Proofs.YtiophiipmgpaeaaW.PrintLast Go.Proofs.YtiophiipmgpaeaaW.PrintMore
attribute [local go_sem] max2_int min2_int max_two min_two max_three min_three max_four min_four
set_option linter.unusedVariables false
set_option linter.unusedSimpArgs false
def impl_lowest.j0 : Nat → Int → Int → Option (Int × Int × Bool)
 | 0, _, _ => none
 | k + 1, x0, x1 => if x1 = 0 then (some (0, 0, false)) else ((impl_divisor.f k (mx x0 (wrap64 (-x0))) x1).bind fun t1106 => (if t1106 = 0 then (none) else ((impl_IsRatio.f k (wrap64 (Int.tdiv x0 t1106)) (wrap64 (Int.tdiv x1 t1106))).bind fun t1108 => (if t1108 = true then (some (wrap64 (Int.tdiv x0 t1106), wrap64 (Int.tdiv x1 t1106), true)) else (some (0, 0, false))))))
def impl_lowest.f (k : Nat) (a0 : Int) (a1 : Int) : Option (Int × Int × Bool) := if a1 < 0 then (impl_lowest.j0 k (wrap64 (-a0)) (wrap64 (-a1))) else (impl_lowest.j0 k a0 a1)
def impl_lowest.T6 : Bool × List (List Nat × List Nat) := (true, [([], []), ([], []), ([0, 1], [0, 1]), ([], []), ([], []), ([3, 4], [3, 4]), ([2, 5], [2, 5]), ([], []), ([7, 6, 0, 1, 2, 3, 4, 5, 6, 7], [6, 7])])
def impl_lowest.B6 : List Nat := [0, 0, 3, 0, 0, 24, 63, 0, 255]
theorem impl_lowest.tab6 : rtab .any (opsOf Try.f178 6) = impl_lowest.T6 := by kernel_rfl
theorem impl_lowest.bits6 : waitsOk impl_lowest.T6.2 impl_lowest.B6 = true := by kernel_rfl
set_option maxHeartbeats 8000000 in
set_option maxRecDepth 100000 in
theorem impl_lowest.calls (k : Nat) (a0 : Int) (a1 : Int) (r1 : Int) (r2 : Int) (r3 : Bool) (w : World) (h : impl_lowest.f k a0 a1 = some (r1, r2, r3)) :
  Calls Try.prog 178 #[.int .i64 a0, .int .i64 a1] w fun e w' => e = .returned (.tuple #[.agg #[.int .i64 r1, .int .i64 r2], .bool r3]) ∧ Below w.heap.size w w' := by
 have hu134 := Try.underlying134
 have HB := sk_' (Below.refl w.heap.size w)
 have H : (if a1 < 0 then (impl_lowest.j0 k (wrap64 (-a0)) (wrap64 (-a1))) else (impl_lowest.j0 k a0 a1)) = some (r1, r2, r3) := h
 clear h
 have HC3 := sk_' H
 clear H
 go_enter Try.func178, Try.ntmps178
 go_upto_if 9 with (first | ((with_reducible refine gate_dst (N := 4) rfl ?_); refine box_event ?hg (N := 4) ?hd (cs := #[.int .i64 0, .int .i64 0]) (t := 134) ?hr ?_; (case hd => rfl); (case hg => rfl); (case hr => first | (go_simp; done) | (go_simp; rfl)); intro gb1105 hg w4 hbox hb; have n0_ := sk_' (pp_' (bm HB) hb); have n1_ := sk_' (hbox); have n2_ := sk_' ((by rw [hg]; exact (ps_' (bm HB)) : w.heap.size ≤ gb1105)); have n3_ := sk_' ((by rw [hg]; exact (ps_' (bm HB)) : w.heap.size ≤ gb1105)); clear HB; have HB := n0_; have BK1105 := n1_; have GW1105 := n2_; have GE1105 := n3_; clear n0_ n1_ n2_ n3_; clear hb hbox hg))
 (try simp only [Act.put, sa_', sz_', sc_'])
 go_cut [0, 1] (fun v0 v1 wc => ∃ (kq : Nat) (x0_2 : Int) (x1_2 : Int), v0 = .int .i64 x0_2 ∧ v1 = .int .i64 x1_2 ∧ Aside0 (impl_lowest.j0 kq x0_2 x1_2 = some (r1, r2, r3)) ∧ Aside0 (kq ≤ k) ∧ Aside0 (wc.heap[gb1105]? = some (.cells #[.int .i64 0, .int .i64 0] 134 (0, 0))) ∧ Aside0 (Below w.heap.size w wc))
 case first =>
  have H := HC3.out
  clear HC3
  by_cases c5 : a1 < 0
  ·
   rw [if_pos c5] at H
   have c5b0 : decide (a1 < 0) = true := decide_eq_true c5
   clear c5
   (first | rw [c5b0] | (simp only [i64_w, i32_w]; rw [c5b0]) | skip)
   have H' := sk_' H
   clear H
   go_wp2
   go_meet
   case rel => exact ⟨_, (wrap64 (-a0)), (wrap64 (-a1)), rfl, rfl, H', ⟨by first | omega | exact Nat.le_refl _⟩, ⟨km BK1105⟩, ⟨bm HB⟩⟩
  rw [if_neg c5] at H
  have c5b0 : decide (a1 < 0) = false := decide_eq_false c5
  clear c5
  (first | rw [c5b0] | (simp only [i64_w, i32_w]; rw [c5b0]) | skip)
  have H' := sk_' H
  clear H
  go_wp2
  go_meet
  case rel => exact ⟨_, (a0), (a1), rfl, rfl, H', ⟨by first | omega | exact Nat.le_refl _⟩, ⟨km BK1105⟩, ⟨bm HB⟩⟩
 case rest =>
  clear HC3
  try clear c1
  try clear p2
  try clear c5
  try clear c5b0
  obtain ⟨kq, x0_2, x1_2, rfl, rfl, HA, HJ2, BK1105, HB⟩ := hcut
  cases kq with
  | zero => exact absurd HA.out (by simp [impl_lowest.j0])
  | succ kj2 =>
   have H := HA.out
   clear HA
   simp only [impl_lowest.j0] at H
   by_cases c6 : x1_2 = 0
   ·
    rw [if_pos c6] at H
    have c6b0 : (x1_2 == 0) = true := beq_iff_eq.mpr c6
    have c6b1 : (x1_2 != 0) = false := bne_eq_false_iff_eq.mpr c6
    clear c6
    simp only [Option.some.injEq, Prod.mk.injEq] at H
    obtain ⟨rfl, rfl, rfl⟩ := H
    have hcz7_0 : wc.cell? ⟨gb1105, 0, none⟩ = some (.int .i64 0) := (kc_' BK1105.out 0).trans rfl
    have hcz7_1 : wc.cell? ⟨gb1105, 1, none⟩ = some (.int .i64 0) := (kc_' BK1105.out 1).trans rfl
    have hfz7_0 := kf_' BK1105.out 0
    have hfz7_1 := kf_' BK1105.out 1
    go_wp2
    refine bodyPost_ret (results_ct rfl _ _ gb1105 134 #[.int .i64 0, .int .i64 0] (0, 0) _ rfl (by (with_reducible repeat (first | refine kn_' ?_ _ | refine kd_' ?_ | refine ka_' ?_ _)); refine blk_put (cs := #[.int .i64 0, .int .i64 0]) ?_ 1 _ rfl; (with_reducible repeat (first | refine kn_' ?_ _ | refine kd_' ?_ | refine ka_' ?_ _)); refine blk_put (cs := #[.int .i64 0, .int .i64 0]) ?_ 0 _ rfl; (with_reducible repeat (first | refine kn_' ?_ _ | refine kd_' ?_ | refine ka_' ?_ _)); exact BK1105.out) Try.underlying134 rfl (by kernel_rfl)) rfl ?_
    exact ⟨by first | rfl | (simp [errW_none, errW_some] <;> rfl) | (simp [*, errW_none, errW_some] <;> rfl), by repeat (first | (with_reducible first | exact HB.out | apply pa_' | apply pn_' | apply pd_' | refine pt_' ?_ GE1105.out) | exact HB.out)⟩
   rw [if_neg c6] at H
   have c6b0 : (x1_2 == 0) = false := beq_eq_false_iff_ne.mpr c6
   have c6b1 : (x1_2 != 0) = true := bne_iff_ne.mpr c6
   obtain ⟨ji8, hji8⟩ : ∃ j_ : Int, (mx x0_2 (wrap64 (-x0_2))) = j_ := ⟨_, rfl⟩
   replace H : ((impl_divisor.f kj2 (ji8) x1_2).bind fun t1106 => (if t1106 = 0 then (none) else ((impl_IsRatio.f kj2 (wrap64 (Int.tdiv x0_2 t1106)) (wrap64 (Int.tdiv x1_2 t1106))).bind fun t1108 => (if t1108 = true then (some (wrap64 (Int.tdiv x0_2 t1106), wrap64 (Int.tdiv x1_2 t1106), true)) else (some (0, 0, false)))))) = some (r1, r2, r3) := by first | (rw [hji8] at H; exact H) | (simp only [hji8] at H ⊢; exact H)
   have hji8_ : (if x0_2 < (wrap64 (-x0_2)) then (wrap64 (-x0_2)) else x0_2) = ji8 := hji8
   replace H := bs_' H
   obtain ⟨t1106, A90, H⟩ := H
   try dsimp only at H
   have A9 := sk_' A90
   clear A90
   by_cases c10 : t1106 = 0
   ·
    rw [if_pos c10] at H
    exact absurd H (by simp)
   rw [if_neg c10] at H
   have c10b0 : (t1106 == 0) = false := beq_eq_false_iff_ne.mpr c10
   have c10b1 : (t1106 != 0) = true := bne_iff_ne.mpr c10
   replace H := bs_' H
   obtain ⟨t1108, A110, H⟩ := H
   try dsimp only at H
   have A11 := sk_' A110
   clear A110
   by_cases c12 : t1108 = true
   ·
    subst c12
    rw [if_pos rfl] at H
    simp only [Option.some.injEq, Prod.mk.injEq] at H
    obtain ⟨rfl, rfl, rfl⟩ := H
    try go_wp2_with (first | ((with_reducible refine xj_' (f := 179) rfl ?_); refine goesL_ (some 22) rfl rfl Try.func179 (by kernel_rfl) rfl #[.int .i64 ji8, .int .i64 x1_2] rfl (by (try simp only [xm_', xc_', xn_']); first | done | (simp only [hji8]; rfl) | rfl | (simp only [xd_', xt_']; rfl)) ?_; (with_reducible refine (impl_divisor.calls kj2 ji8 x1_2 t1106 _ A9.out).mono ?_); rintro e w' ⟨rfl, ⟨nd, rfl⟩⟩; refine ⟨_, rfl, ?_⟩; (try (rw [drewN_self wc]; generalize hq_ : World.drewN wc _ = wc; have n0_ : Aside0 (wc.heap[gb1105]? = some (.cells #[.int .i64 0, .int .i64 0] 134 (0, 0))) := ⟨by rw [← hq_]; exact (km BK1105)⟩; have n1_ : Aside0 (Below w.heap.size w wc) := ⟨by rw [← hq_]; exact (bm HB)⟩; clear BK1105 HB hq_; have BK1105 := n0_; have HB := n1_; clear n0_ n1_))))
    have n0_ := sk_' (kd_' BK1105.out)
    have n1_ := sk_' (pd_' HB.out)
    clear BK1105
    clear HB
    have BK1105 := n0_
    have HB := n1_
    clear n0_ n1_
    refine start_ (n := 9) (S := fun w' => True) (ds := []) #[false, false, false, false, false, false, false, false, false] (by kernel_rfl) rfl rfl trivial (fun hHeld => ?_); refine with_tabW impl_lowest.tab6 impl_lowest.bits6 (fun HT_ HW_ => ?_)
    generalize wc.drew = w13 at BK1105 HB hHeld ⊢
    refine pure_ (i := 0) (N := some 23) (v := ?_) (a' := ?_) #[true, false, false, false, false, false, false, false, false] rfl rfl (any_of HT_.out (by kernel_rfl)) (fun _ _ _ h => h) (Or.inl ⟨by rfl, ?_⟩) ?_ ?_
    rotate_left
    ·
     intro w'
     go_simp
     with_reducible rfl
    rotate_left
    ·
     simp only [Act.put, sa_', sz_', sc_', i64_w, i32_w]
     rfl
    refine pure_ (i := 1) (N := some 24) (v := ?_) (a' := ?_) #[true, true, false, false, false, false, false, false, false] rfl rfl (any_of HT_.out (by kernel_rfl)) (fun _ _ _ h => h) (Or.inl ⟨by rfl, ?_⟩) ?_ ?_
    rotate_left
    ·
     intro w'
     go_simp
     with_reducible rfl
    rotate_left
    ·
     simp only [Act.put, sa_', sz_', sc_', i64_w, i32_w]
     rfl
    refine pure_ (i := 2) (N := some 25) (v := ?_) (a' := ?_) #[true, true, true, false, false, false, false, false, false] rfl rfl (any_of HT_.out (by kernel_rfl)) (fun _ _ _ h => h) (Or.inl ⟨by rfl, ?_⟩) ?_ ?_
    rotate_left
    ·
     intro w'
     go_simp
     with_reducible rfl
    rotate_left
    ·
     simp only [Act.put, sa_', sz_', sc_', i64_w, i32_w]
     rfl
    refine pure_ (i := 3) (N := some 26) (v := ?_) (a' := ?_) #[true, true, true, true, false, false, false, false, false] rfl rfl (any_of HT_.out (by kernel_rfl)) (fun _ _ _ h => h) (Or.inl ⟨by rfl, ?_⟩) ?_ ?_
    rotate_left
    ·
     intro w'
     go_simp
     with_reducible rfl
    rotate_left
    ·
     simp only [Act.put, sa_', sz_', sc_', i64_w, i32_w]
     rfl
    refine pure_ (i := 4) (N := some 27) (v := ?_) (a' := ?_) #[true, true, true, true, true, false, false, false, false] rfl rfl (any_of HT_.out (by kernel_rfl)) (fun _ _ _ h => h) (Or.inl ⟨by rfl, ?_⟩) ?_ ?_
    rotate_left
    ·
     intro w'
     go_simp
     with_reducible rfl
    rotate_left
    ·
     simp only [Act.put, sa_', sz_', sc_', i64_w, i32_w]
     rfl
    refine pure_ (i := 5) (N := some 28) (v := ?_) (a' := ?_) #[true, true, true, true, true, true, false, false, false] rfl rfl (any_of HT_.out (by kernel_rfl)) (fun _ _ _ h => h) (Or.inl ⟨by rfl, ?_⟩) ?_ ?_
    rotate_left
    ·
     intro w'
     go_simp
     with_reducible rfl
    rotate_left
    ·
     simp only [Act.put, sa_', sz_', sc_', i64_w, i32_w]
     rfl
    refine pure_ (i := 6) (N := some 29) (v := ?_) (a' := ?_) #[true, true, true, true, true, true, true, false, false] rfl rfl (any_of HT_.out (by kernel_rfl)) (fun _ _ _ h => h) (Or.inl ⟨by rfl, ?_⟩) ?_ ?_
    rotate_left
    ·
     intro w'
     go_simp
     with_reducible rfl
    rotate_left
    ·
     simp only [Act.put, sa_', sz_', sc_', i64_w, i32_w]
     rfl
    refine one_ (i := 7) (N := some 7) #[true, true, true, true, true, true, true, true, false] rfl rfl (one_of HT_.out (by kernel_rfl)) (by decide) (fun K hK => ?_)
    refine box_step ?hg (N := 7) ?hd (cs := #[.int .i64 0, .int .i64 0]) (t := 134) ?hr ?_; (case hd => rfl); (case hg => rfl); (case hr => first | (go_simp; done) | (go_simp; rfl))
    intro gb1107 hg w14 hbox hb
    have n0_ := sk_' (blk_below (g := gb1105) (o := .cells #[.int .i64 0, .int .i64 0] 134 (0, 0)) (km BK1105) hb)
    have n1_ := sk_' (pp_' (bm HB) hb)
    have n2_ := sk_' (hbox)
    have n3_ := sk_' ((by rw [hg]; exact (ps_' (bm HB)) : w.heap.size ≤ gb1107))
    have n4_ := sk_' ((by rw [hg]; exact (ps_' (bm HB)) : w.heap.size ≤ gb1107))
    have n5_ := sk_' ((by rw [hg]; exact Nat.ne_of_lt (blk_lt (g := gb1105) (o := .cells #[.int .i64 0, .int .i64 0] 134 (0, 0)) (km BK1105)) : gb1105 ≠ gb1107))
    have n6_ := sk_' ((by rw [hg]; exact Nat.ne_of_gt (blk_lt (g := gb1105) (o := .cells #[.int .i64 0, .int .i64 0] 134 (0, 0)) (km BK1105)) : gb1107 ≠ gb1105))
    clear BK1105
    clear HB
    have BK1105 := n0_
    have HB := n1_
    have BK1107 := n2_
    have GW1107 := n3_
    have GE1107 := n4_
    have NB1105_1107 := n5_
    have NB1107_1105 := n6_
    clear n0_ n1_ n2_ n3_ n4_ n5_ n6_
    clear hb hbox hg
    refine hK.out _ _ trivial (fun hHeld => ?_)
    clear hK K
    refine norm_ (a' := ?_) ?_ ?_
    rotate_left
    ·
     show Act.put _ (some 7) _ = _
     simp only [Act.put, sa_', sz_', sc_', i64_w, i32_w]
     rfl
    refine one_ (i := 8) (N := none) #[true, true, true, true, true, true, true, true, true] rfl rfl (one_of HT_.out (by kernel_rfl)) (by decide) (fun K hK => ?_)
    have hs15 : w14.cell? ⟨gb1107, 0, none⟩ = some (.int .i64 0) := (kc_' BK1107.out 0).trans rfl
    have hfs15 := kf_' BK1107.out 0
    have hns15_0 := NB1105_1107.out
    have hms15_0 := NB1107_1105.out
    have hs16 : w14.cell? ⟨gb1107, 1, none⟩ = some (.int .i64 0) := (kc_' BK1107.out 1).trans rfl
    have hfs16 := kf_' BK1107.out 1
    have hns16_0 := NB1105_1107.out
    have hms16_0 := NB1107_1105.out
    refine skip_ (w1 := ?_) (by rfl) rfl ?_ ?_
    rotate_left
    ·
     go_simp
     rfl
    refine hK.out _ _ trivial (fun hHeld => ?_)
    clear hK K
    refine done_ (done_of HT_.out (by kernel_rfl)) ?_
    have hnb17 := NB1107_1105.out
    have hnc17 := NB1105_1107.out
    have hcz18_0 : w14.cell? ⟨gb1107, 0, none⟩ = some (.int .i64 0) := (kc_' BK1107.out 0).trans rfl
    have hcz18_1 : w14.cell? ⟨gb1107, 1, none⟩ = some (.int .i64 0) := (kc_' BK1107.out 1).trans rfl
    have hfz18_0 := kf_' BK1107.out 0
    have hfz18_1 := kf_' BK1107.out 1
    try go_wp2_with (first | ((with_reducible refine xj_' (f := 154) rfl ?_); refine goesL_ (some 31) rfl rfl Try.func154 (by kernel_rfl) rfl #[.agg #[.int .i64 (wrap64 (Int.tdiv x0_2 t1106)), .int .i64 (wrap64 (Int.tdiv x1_2 t1106))]] rfl (by (try simp only [xm_', xc_', xn_']); first | done | rfl | (simp only [xd_', xt_']; rfl)) ?_; (with_reducible refine (impl_IsRatio.calls kj2 (wrap64 (Int.tdiv x0_2 t1106)) (wrap64 (Int.tdiv x1_2 t1106)) true _ A11.out).mono ?_); rintro e w19 ⟨rfl, hb⟩; refine ⟨_, rfl, ?_⟩; have n0_ := sk_' (blk_below (g := gb1105) (o := .cells #[.int .i64 0, .int .i64 0] 134 (0, 0)) (by (with_reducible repeat (first | refine kn_' ?_ _ | refine kd_' ?_ | refine ka_' ?_ _)); refine blk_far ?_ NB1105_1107.out _; (with_reducible repeat (first | refine kn_' ?_ _ | refine kd_' ?_ | refine ka_' ?_ _)); refine blk_far ?_ NB1105_1107.out _; (with_reducible repeat (first | refine kn_' ?_ _ | refine kd_' ?_ | refine ka_' ?_ _)); exact BK1105.out) hb); have n1_ := sk_' (blk_below (g := gb1107) (o := .cells #[.int .i64 (wrap64 (Int.tdiv x0_2 t1106)), .int .i64 (wrap64 (Int.tdiv x1_2 t1106))] 134 (0, 0)) (by (with_reducible repeat (first | refine kn_' ?_ _ | refine kd_' ?_ | refine ka_' ?_ _)); refine blk_put (cs := #[.int .i64 (wrap64 (Int.tdiv x0_2 t1106)), .int .i64 0]) ?_ 1 _ rfl; (with_reducible repeat (first | refine kn_' ?_ _ | refine kd_' ?_ | refine ka_' ?_ _)); refine blk_put (cs := #[.int .i64 0, .int .i64 0]) ?_ 0 _ rfl; (with_reducible repeat (first | refine kn_' ?_ _ | refine kd_' ?_ | refine ka_' ?_ _)); exact BK1107.out) hb); have n2_ := sk_' (pp_' (by repeat (first | (with_reducible first | exact HB.out | apply pa_' | apply pn_' | apply pd_' | refine pt_' ?_ GE1105.out | refine pt_' ?_ GE1107.out) | exact HB.out)) hb); clear BK1105; clear BK1107; clear HB; have BK1105 := n0_; have BK1107 := n1_; have HB := n2_; clear n0_ n1_ n2_; (try clear hb); (try clear hb2); (try clear hk); (try clear hi); have hcz20_0 : w19.cell? ⟨gb1107, 0, none⟩ = some (.int .i64 (wrap64 (Int.tdiv x0_2 t1106))) := (kc_' BK1107.out 0).trans rfl; have hcz20_1 : w19.cell? ⟨gb1107, 1, none⟩ = some (.int .i64 (wrap64 (Int.tdiv x1_2 t1106))) := (kc_' BK1107.out 1).trans rfl; have hfz20_0 := kf_' BK1107.out 0; have hfz20_1 := kf_' BK1107.out 1; have hcz21_0 : w19.cell? ⟨gb1105, 0, none⟩ = some (.int .i64 0) := (kc_' BK1105.out 0).trans rfl; have hcz21_1 : w19.cell? ⟨gb1105, 1, none⟩ = some (.int .i64 0) := (kc_' BK1105.out 1).trans rfl; have hfz21_0 := kf_' BK1105.out 0; have hfz21_1 := kf_' BK1105.out 1))
    refine bodyPost_ret (results_ct rfl _ _ gb1105 134 #[.int .i64 (wrap64 (Int.tdiv x0_2 t1106)), .int .i64 (wrap64 (Int.tdiv x1_2 t1106))] (0, 0) _ rfl (by (with_reducible repeat (first | refine kn_' ?_ _ | refine kd_' ?_ | refine ka_' ?_ _)); refine blk_put (cs := #[.int .i64 (wrap64 (Int.tdiv x0_2 t1106)), .int .i64 0]) ?_ 1 _ rfl; (with_reducible repeat (first | refine kn_' ?_ _ | refine kd_' ?_ | refine ka_' ?_ _)); refine blk_put (cs := #[.int .i64 0, .int .i64 0]) ?_ 0 _ rfl; (with_reducible repeat (first | refine kn_' ?_ _ | refine kd_' ?_ | refine ka_' ?_ _)); exact BK1105.out) Try.underlying134 rfl (by kernel_rfl)) rfl ?_
    exact ⟨by first | rfl | (simp [errW_none, errW_some] <;> rfl) | (simp only [← hji8]; first | rfl | (simp [errW_none, errW_some] <;> rfl)) | (simp [*, errW_none, errW_some] <;> rfl), by repeat (first | (with_reducible first | exact HB.out | apply pa_' | apply pn_' | apply pd_' | refine pt_' ?_ GE1105.out | refine pt_' ?_ GE1107.out) | exact HB.out)⟩
   replace c12 := Bool.eq_false_iff.mpr c12
   subst c12
   rw [if_neg (show ¬ (false = true) by decide)] at H
   simp only [Option.some.injEq, Prod.mk.injEq] at H
   obtain ⟨rfl, rfl, rfl⟩ := H
   try go_wp2_with (first | ((with_reducible refine xj_' (f := 179) rfl ?_); refine goesL_ (some 22) rfl rfl Try.func179 (by kernel_rfl) rfl #[.int .i64 ji8, .int .i64 x1_2] rfl (by (try simp only [xm_', xc_', xn_']); first | done | (simp only [hji8]; rfl) | rfl | (simp only [xd_', xt_']; rfl)) ?_; (with_reducible refine (impl_divisor.calls kj2 ji8 x1_2 t1106 _ A9.out).mono ?_); rintro e w' ⟨rfl, ⟨nd, rfl⟩⟩; refine ⟨_, rfl, ?_⟩; (try (rw [drewN_self wc]; generalize hq_ : World.drewN wc _ = wc; have n0_ : Aside0 (wc.heap[gb1105]? = some (.cells #[.int .i64 0, .int .i64 0] 134 (0, 0))) := ⟨by rw [← hq_]; exact (by (with_reducible repeat (first | refine kn_' ?_ _ | refine kd_' ?_ | refine ka_' ?_ _)); exact BK1105.out)⟩; have n1_ : Aside0 (Below w.heap.size w wc) := ⟨by rw [← hq_]; exact (by repeat (first | (with_reducible first | exact HB.out | apply pa_' | apply pn_' | apply pd_' | refine pt_' ?_ GE1105.out) | exact HB.out))⟩; clear BK1105 HB hq_; have BK1105 := n0_; have HB := n1_; clear n0_ n1_))))
   have n0_ := sk_' (kd_' BK1105.out)
   have n1_ := sk_' (pd_' HB.out)
   clear BK1105
   clear HB
   have BK1105 := n0_
   have HB := n1_
   clear n0_ n1_
   refine start_ (n := 9) (S := fun w' => True) (ds := []) #[false, false, false, false, false, false, false, false, false] (by kernel_rfl) rfl rfl trivial (fun hHeld => ?_); refine with_tabW impl_lowest.tab6 impl_lowest.bits6 (fun HT_ HW_ => ?_)
   generalize wc.drew = w22 at BK1105 HB hHeld ⊢
   refine pure_ (i := 0) (N := some 23) (v := ?_) (a' := ?_) #[true, false, false, false, false, false, false, false, false] rfl rfl (any_of HT_.out (by kernel_rfl)) (fun _ _ _ h => h) (Or.inl ⟨by rfl, ?_⟩) ?_ ?_
   rotate_left
   ·
    intro w'
    go_simp
    with_reducible rfl
   rotate_left
   ·
    simp only [Act.put, sa_', sz_', sc_', i64_w, i32_w]
    rfl
   refine pure_ (i := 1) (N := some 24) (v := ?_) (a' := ?_) #[true, true, false, false, false, false, false, false, false] rfl rfl (any_of HT_.out (by kernel_rfl)) (fun _ _ _ h => h) (Or.inl ⟨by rfl, ?_⟩) ?_ ?_
   rotate_left
   ·
    intro w'
    go_simp
    with_reducible rfl
   rotate_left
   ·
    simp only [Act.put, sa_', sz_', sc_', i64_w, i32_w]
    rfl
   refine pure_ (i := 2) (N := some 25) (v := ?_) (a' := ?_) #[true, true, true, false, false, false, false, false, false] rfl rfl (any_of HT_.out (by kernel_rfl)) (fun _ _ _ h => h) (Or.inl ⟨by rfl, ?_⟩) ?_ ?_
   rotate_left
   ·
    intro w'
    go_simp
    with_reducible rfl
   rotate_left
   ·
    simp only [Act.put, sa_', sz_', sc_', i64_w, i32_w]
    rfl
   refine pure_ (i := 3) (N := some 26) (v := ?_) (a' := ?_) #[true, true, true, true, false, false, false, false, false] rfl rfl (any_of HT_.out (by kernel_rfl)) (fun _ _ _ h => h) (Or.inl ⟨by rfl, ?_⟩) ?_ ?_
   rotate_left
   ·
    intro w'
    go_simp
    with_reducible rfl
   rotate_left
   ·
    simp only [Act.put, sa_', sz_', sc_', i64_w, i32_w]
    rfl
   refine pure_ (i := 4) (N := some 27) (v := ?_) (a' := ?_) #[true, true, true, true, true, false, false, false, false] rfl rfl (any_of HT_.out (by kernel_rfl)) (fun _ _ _ h => h) (Or.inl ⟨by rfl, ?_⟩) ?_ ?_
   rotate_left
   ·
    intro w'
    go_simp
    with_reducible rfl
   rotate_left
   ·
    simp only [Act.put, sa_', sz_', sc_', i64_w, i32_w]
    rfl
   refine pure_ (i := 5) (N := some 28) (v := ?_) (a' := ?_) #[true, true, true, true, true, true, false, false, false] rfl rfl (any_of HT_.out (by kernel_rfl)) (fun _ _ _ h => h) (Or.inl ⟨by rfl, ?_⟩) ?_ ?_
   rotate_left
   ·
    intro w'
    go_simp
    with_reducible rfl
   rotate_left
   ·
    simp only [Act.put, sa_', sz_', sc_', i64_w, i32_w]
    rfl
   refine pure_ (i := 6) (N := some 29) (v := ?_) (a' := ?_) #[true, true, true, true, true, true, true, false, false] rfl rfl (any_of HT_.out (by kernel_rfl)) (fun _ _ _ h => h) (Or.inl ⟨by rfl, ?_⟩) ?_ ?_
   rotate_left
   ·
    intro w'
    go_simp
    with_reducible rfl
   rotate_left
   ·
    simp only [Act.put, sa_', sz_', sc_', i64_w, i32_w]
    rfl
   refine one_ (i := 7) (N := some 7) #[true, true, true, true, true, true, true, true, false] rfl rfl (one_of HT_.out (by kernel_rfl)) (by decide) (fun K hK => ?_)
   refine box_step ?hg (N := 7) ?hd (cs := #[.int .i64 0, .int .i64 0]) (t := 134) ?hr ?_; (case hd => rfl); (case hg => rfl); (case hr => first | (go_simp; done) | (go_simp; rfl))
   intro gb1107 hg w23 hbox hb
   have n0_ := sk_' (blk_below (g := gb1105) (o := .cells #[.int .i64 0, .int .i64 0] 134 (0, 0)) (km BK1105) hb)
   have n1_ := sk_' (pp_' (bm HB) hb)
   have n2_ := sk_' (hbox)
   have n3_ := sk_' ((by rw [hg]; exact (ps_' (bm HB)) : w.heap.size ≤ gb1107))
   have n4_ := sk_' ((by rw [hg]; exact (ps_' (bm HB)) : w.heap.size ≤ gb1107))
   have n5_ := sk_' ((by rw [hg]; exact Nat.ne_of_lt (blk_lt (g := gb1105) (o := .cells #[.int .i64 0, .int .i64 0] 134 (0, 0)) (km BK1105)) : gb1105 ≠ gb1107))
   have n6_ := sk_' ((by rw [hg]; exact Nat.ne_of_gt (blk_lt (g := gb1105) (o := .cells #[.int .i64 0, .int .i64 0] 134 (0, 0)) (km BK1105)) : gb1107 ≠ gb1105))
   clear BK1105
   clear HB
   have BK1105 := n0_
   have HB := n1_
   have BK1107 := n2_
   have GW1107 := n3_
   have GE1107 := n4_
   have NB1105_1107 := n5_
   have NB1107_1105 := n6_
   clear n0_ n1_ n2_ n3_ n4_ n5_ n6_
   clear hb hbox hg
   refine hK.out _ _ trivial (fun hHeld => ?_)
   clear hK K
   refine norm_ (a' := ?_) ?_ ?_
   rotate_left
   ·
    show Act.put _ (some 7) _ = _
    simp only [Act.put, sa_', sz_', sc_', i64_w, i32_w]
    rfl
   refine one_ (i := 8) (N := none) #[true, true, true, true, true, true, true, true, true] rfl rfl (one_of HT_.out (by kernel_rfl)) (by decide) (fun K hK => ?_)
   have hs24 : w23.cell? ⟨gb1107, 0, none⟩ = some (.int .i64 0) := (kc_' BK1107.out 0).trans rfl
   have hfs24 := kf_' BK1107.out 0
   have hns24_0 := NB1105_1107.out
   have hms24_0 := NB1107_1105.out
   have hs25 : w23.cell? ⟨gb1107, 1, none⟩ = some (.int .i64 0) := (kc_' BK1107.out 1).trans rfl
   have hfs25 := kf_' BK1107.out 1
   have hns25_0 := NB1105_1107.out
   have hms25_0 := NB1107_1105.out
   refine skip_ (w1 := ?_) (by rfl) rfl ?_ ?_
   rotate_left
   ·
    go_simp
    rfl
   refine hK.out _ _ trivial (fun hHeld => ?_)
   clear hK K
   refine done_ (done_of HT_.out (by kernel_rfl)) ?_
   have hnb26 := NB1107_1105.out
   have hnc26 := NB1105_1107.out
   have hcz27_0 : w23.cell? ⟨gb1107, 0, none⟩ = some (.int .i64 0) := (kc_' BK1107.out 0).trans rfl
   have hcz27_1 : w23.cell? ⟨gb1107, 1, none⟩ = some (.int .i64 0) := (kc_' BK1107.out 1).trans rfl
   have hfz27_0 := kf_' BK1107.out 0
   have hfz27_1 := kf_' BK1107.out 1
   try go_wp2_with (first | ((with_reducible refine xj_' (f := 154) rfl ?_); refine goesL_ (some 31) rfl rfl Try.func154 (by kernel_rfl) rfl #[.agg #[.int .i64 (wrap64 (Int.tdiv x0_2 t1106)), .int .i64 (wrap64 (Int.tdiv x1_2 t1106))]] rfl (by (try simp only [xm_', xc_', xn_']); first | done | rfl | (simp only [xd_', xt_']; rfl)) ?_; (with_reducible refine (impl_IsRatio.calls kj2 (wrap64 (Int.tdiv x0_2 t1106)) (wrap64 (Int.tdiv x1_2 t1106)) false _ A11.out).mono ?_); rintro e w28 ⟨rfl, hb⟩; refine ⟨_, rfl, ?_⟩; have n0_ := sk_' (blk_below (g := gb1105) (o := .cells #[.int .i64 0, .int .i64 0] 134 (0, 0)) (by (with_reducible repeat (first | refine kn_' ?_ _ | refine kd_' ?_ | refine ka_' ?_ _)); refine blk_far ?_ NB1105_1107.out _; (with_reducible repeat (first | refine kn_' ?_ _ | refine kd_' ?_ | refine ka_' ?_ _)); refine blk_far ?_ NB1105_1107.out _; (with_reducible repeat (first | refine kn_' ?_ _ | refine kd_' ?_ | refine ka_' ?_ _)); exact BK1105.out) hb); have n1_ := sk_' (blk_below (g := gb1107) (o := .cells #[.int .i64 (wrap64 (Int.tdiv x0_2 t1106)), .int .i64 (wrap64 (Int.tdiv x1_2 t1106))] 134 (0, 0)) (by (with_reducible repeat (first | refine kn_' ?_ _ | refine kd_' ?_ | refine ka_' ?_ _)); refine blk_put (cs := #[.int .i64 (wrap64 (Int.tdiv x0_2 t1106)), .int .i64 0]) ?_ 1 _ rfl; (with_reducible repeat (first | refine kn_' ?_ _ | refine kd_' ?_ | refine ka_' ?_ _)); refine blk_put (cs := #[.int .i64 0, .int .i64 0]) ?_ 0 _ rfl; (with_reducible repeat (first | refine kn_' ?_ _ | refine kd_' ?_ | refine ka_' ?_ _)); exact BK1107.out) hb); have n2_ := sk_' (pp_' (by repeat (first | (with_reducible first | exact HB.out | apply pa_' | apply pn_' | apply pd_' | refine pt_' ?_ GE1105.out | refine pt_' ?_ GE1107.out) | exact HB.out)) hb); clear BK1105; clear BK1107; clear HB; have BK1105 := n0_; have BK1107 := n1_; have HB := n2_; clear n0_ n1_ n2_; (try clear hb); (try clear hb2); (try clear hk); (try clear hi); have hcz29_0 : w28.cell? ⟨gb1105, 0, none⟩ = some (.int .i64 0) := (kc_' BK1105.out 0).trans rfl; have hcz29_1 : w28.cell? ⟨gb1105, 1, none⟩ = some (.int .i64 0) := (kc_' BK1105.out 1).trans rfl; have hfz29_0 := kf_' BK1105.out 0; have hfz29_1 := kf_' BK1105.out 1))
   refine bodyPost_ret (results_ct rfl _ _ gb1105 134 #[.int .i64 0, .int .i64 0] (0, 0) _ rfl (by (with_reducible repeat (first | refine kn_' ?_ _ | refine kd_' ?_ | refine ka_' ?_ _)); refine blk_put (cs := #[.int .i64 0, .int .i64 0]) ?_ 1 _ rfl; (with_reducible repeat (first | refine kn_' ?_ _ | refine kd_' ?_ | refine ka_' ?_ _)); refine blk_put (cs := #[.int .i64 0, .int .i64 0]) ?_ 0 _ rfl; (with_reducible repeat (first | refine kn_' ?_ _ | refine kd_' ?_ | refine ka_' ?_ _)); exact BK1105.out) Try.underlying134 rfl (by kernel_rfl)) rfl ?_
   exact ⟨by first | rfl | (simp [errW_none, errW_some] <;> rfl) | (simp only [← hji8]; first | rfl | (simp [errW_none, errW_some] <;> rfl)) | (simp [*, errW_none, errW_some] <;> rfl), by repeat (first | (with_reducible first | exact HB.out | apply pa_' | apply pn_' | apply pd_' | refine pt_' ?_ GE1105.out | refine pt_' ?_ GE1107.out) | exact HB.out)⟩
end Go.Proofs.Ytiophiipmgpaeaa.F

namespace Go.Proofs.Ytiophiipmgpaeaa.F
open Go.RowKit Go.Proofs.YtiophiipmgpaeaaW.PrintWords Go.Proofs.YtiophiipmgpaeaaW.PrintLast Go.Proofs.YtiophiipmgpaeaaW.PrintMore
attribute [local go_sem] max2_int min2_int max_two min_two max_three min_three max_four min_four
set_option linter.unusedVariables false
set_option linter.unusedSimpArgs false
def impl_MakeRatio.f (k : Nat) (a0 : Int) (a1 : Int) : Option (Int × Int × Bool) := (impl_InRange.f a0 (-1000000000000000) 1000000000000000).bind fun t1110 => (if t1110 = true then ((impl_InRange.f a1 (-1000000000000000) 1000000000000000).bind fun t1111 => (if t1111 = true then ((impl_lowest.f k a0 a1).bind fun bt1112 => (some (bt1112.1, bt1112.2.1, bt1112.2.2))) else (some (0, 0, false)))) else (some (0, 0, false)))
set_option maxHeartbeats 8000000 in
set_option maxRecDepth 100000 in
theorem impl_MakeRatio.calls (k : Nat) (a0 : Int) (a1 : Int) (r1 : Int) (r2 : Int) (r3 : Bool) (w : World) (h : impl_MakeRatio.f k a0 a1 = some (r1, r2, r3)) :
  Calls Try.prog 152 #[.int .i64 a0, .int .i64 a1] w fun e w' => e = .returned (.tuple #[.agg #[.int .i64 r1, .int .i64 r2], .bool r3]) ∧ Below w.heap.size w w' := by
 have hu134 := Try.underlying134
 have HB := sk_' (Below.refl w.heap.size w)
 have H : ((impl_InRange.f a0 (-1000000000000000) 1000000000000000).bind fun t1110 => (if t1110 = true then ((impl_InRange.f a1 (-1000000000000000) 1000000000000000).bind fun t1111 => (if t1111 = true then ((impl_lowest.f k a0 a1).bind fun bt1112 => (some (bt1112.1, bt1112.2.1, bt1112.2.2))) else (some (0, 0, false)))) else (some (0, 0, false)))) = some (r1, r2, r3) := h
 clear h
 replace H := bs_' H
 obtain ⟨t1110, A30, H⟩ := H
 try dsimp only at H
 have A3 := sk_' A30
 clear A30
 by_cases c4 : t1110 = true
 ·
  subst c4
  rw [if_pos rfl] at H
  replace H := bs_' H
  obtain ⟨t1111, A50, H⟩ := H
  try dsimp only at H
  have A5 := sk_' A50
  clear A50
  by_cases c6 : t1111 = true
  ·
   subst c6
   rw [if_pos rfl] at H
   replace H := bs_' H
   obtain ⟨⟨t1112, t1113, t1114⟩, A70, H⟩ := H
   try dsimp only at H
   have A7 := sk_' A70
   clear A70
   simp only [Option.some.injEq, Prod.mk.injEq] at H
   obtain ⟨rfl, rfl, rfl⟩ := H
   go_enter Try.func152, Try.ntmps152
   go_wp2_with (first | ((with_reducible refine gate_dst (N := 4) rfl ?_); refine box_event ?hg (N := 4) ?hd (cs := #[.int .i64 0, .int .i64 0]) (t := 134) ?hr ?_; (case hd => rfl); (case hg => rfl); (case hr => first | (go_simp; done) | (go_simp; rfl)); intro gb1109 hg w8 hbox hb; have n0_ := sk_' (pp_' (by repeat (first | (with_reducible first | exact HB.out | apply pa_' | apply pn_' | apply pd_') | exact HB.out)) hb); have n1_ := sk_' (hbox); have n2_ := sk_' ((by rw [hg]; exact (ps_' (by repeat (first | (with_reducible first | exact HB.out | apply pa_' | apply pn_' | apply pd_') | exact HB.out))) : w.heap.size ≤ gb1109)); have n3_ := sk_' ((by rw [hg]; exact (ps_' (by repeat (first | (with_reducible first | exact HB.out | apply pa_' | apply pn_' | apply pd_') | exact HB.out))) : w.heap.size ≤ gb1109)); clear HB; have HB := n0_; have BK1109 := n1_; have GW1109 := n2_; have GE1109 := n3_; clear n0_ n1_ n2_ n3_; clear hb hbox hg) | ((with_reducible refine xj_' (f := 82) rfl ?_); refine goesL_ (some 7) rfl rfl Try.func82 (by kernel_rfl) rfl #[.int .i64 a0, .int .i64 (-1000000000000000), .int .i64 1000000000000000] rfl (by (try simp only [xm_', xc_', xn_']); first | done | rfl | (simp only [xd_', xt_']; rfl)) ?_; (with_reducible refine (impl_InRange.calls a0 (-1000000000000000) 1000000000000000 true _ A3.out).mono ?_); rintro e w' ⟨rfl, ⟨nd, rfl⟩⟩; refine ⟨_, rfl, ?_⟩; (try (rw [drewN_self w8]; generalize hq_ : World.drewN w8 _ = w8; have n0_ : Aside0 (w8.heap[gb1109]? = some (.cells #[.int .i64 0, .int .i64 0] 134 (0, 0))) := ⟨by rw [← hq_]; exact (by (with_reducible repeat (first | refine kn_' ?_ _ | refine kd_' ?_ | refine ka_' ?_ _)); exact BK1109.out)⟩; have n1_ : Aside0 (Below w.heap.size w w8) := ⟨by rw [← hq_]; exact (by repeat (first | (with_reducible first | exact HB.out | apply pa_' | apply pn_' | apply pd_' | refine pt_' ?_ GE1109.out) | exact HB.out))⟩; clear BK1109 HB hq_; have BK1109 := n0_; have HB := n1_; clear n0_ n1_))) | (go_at_call 82; (with_reducible refine (impl_InRange.calls a1 (-1000000000000000) 1000000000000000 true _ A5.out).mono ?_); rintro e w' ⟨rfl, ⟨nd, rfl⟩⟩; (try (rw [drewN_self w8]; generalize hq_ : World.drewN w8 _ = w8; have n0_ : Aside0 (w8.heap[gb1109]? = some (.cells #[.int .i64 0, .int .i64 0] 134 (0, 0))) := ⟨by rw [← hq_]; exact (by (with_reducible repeat (first | refine kn_' ?_ _ | refine kd_' ?_ | refine ka_' ?_ _)); exact BK1109.out)⟩; have n1_ : Aside0 (Below w.heap.size w w8) := ⟨by rw [← hq_]; exact (by repeat (first | (with_reducible first | exact HB.out | apply pa_' | apply pn_' | apply pd_' | refine pt_' ?_ GE1109.out) | exact HB.out))⟩; clear BK1109 HB hq_; have BK1109 := n0_; have HB := n1_; clear n0_ n1_))) | ((with_reducible refine xj_' (f := 178) rfl ?_); refine goesL_ (some 17) rfl rfl Try.func178 (by kernel_rfl) rfl #[.int .i64 a0, .int .i64 a1] rfl (by (try simp only [xm_', xc_', xn_']); first | done | rfl | (simp only [xd_', xt_']; rfl)) ?_; (with_reducible refine (impl_lowest.calls k a0 a1 t1112 t1113 t1114 _ A7.out).mono ?_); rintro e w9 ⟨rfl, hb⟩; refine ⟨_, rfl, ?_⟩; have n0_ := sk_' (blk_below (g := gb1109) (o := .cells #[.int .i64 0, .int .i64 0] 134 (0, 0)) (by (with_reducible repeat (first | refine kn_' ?_ _ | refine kd_' ?_ | refine ka_' ?_ _)); exact BK1109.out) hb); have n1_ := sk_' (pp_' (by repeat (first | (with_reducible first | exact HB.out | apply pa_' | apply pn_' | apply pd_' | refine pt_' ?_ GE1109.out) | exact HB.out)) hb); clear BK1109; clear HB; have BK1109 := n0_; have HB := n1_; clear n0_ n1_; (try clear hb); (try clear hb2); (try clear hk); (try clear hi); have hcz10_0 : w9.cell? ⟨gb1109, 0, none⟩ = some (.int .i64 0) := (kc_' BK1109.out 0).trans rfl; have hcz10_1 : w9.cell? ⟨gb1109, 1, none⟩ = some (.int .i64 0) := (kc_' BK1109.out 1).trans rfl; have hfz10_0 := kf_' BK1109.out 0; have hfz10_1 := kf_' BK1109.out 1))
   refine bodyPost_ret (results_ct rfl _ _ gb1109 134 #[.int .i64 t1112, .int .i64 t1113] (0, 0) _ rfl (by (with_reducible repeat (first | refine kn_' ?_ _ | refine kd_' ?_ | refine ka_' ?_ _)); refine blk_put (cs := #[.int .i64 t1112, .int .i64 0]) ?_ 1 _ rfl; (with_reducible repeat (first | refine kn_' ?_ _ | refine kd_' ?_ | refine ka_' ?_ _)); refine blk_put (cs := #[.int .i64 0, .int .i64 0]) ?_ 0 _ rfl; (with_reducible repeat (first | refine kn_' ?_ _ | refine kd_' ?_ | refine ka_' ?_ _)); exact BK1109.out) Try.underlying134 rfl (by kernel_rfl)) rfl ?_
   exact ⟨by first | rfl | (simp [errW_none, errW_some] <;> rfl) | (simp [*, errW_none, errW_some] <;> rfl), by repeat (first | (with_reducible first | exact HB.out | apply pa_' | apply pn_' | apply pd_' | refine pt_' ?_ GE1109.out) | exact HB.out)⟩
  replace c6 := Bool.eq_false_iff.mpr c6
  subst c6
  rw [if_neg (show ¬ (false = true) by decide)] at H
  simp only [Option.some.injEq, Prod.mk.injEq] at H
  obtain ⟨rfl, rfl, rfl⟩ := H
  go_enter Try.func152, Try.ntmps152
  go_wp2_with (first | ((with_reducible refine gate_dst (N := 4) rfl ?_); refine box_event ?hg (N := 4) ?hd (cs := #[.int .i64 0, .int .i64 0]) (t := 134) ?hr ?_; (case hd => rfl); (case hg => rfl); (case hr => first | (go_simp; done) | (go_simp; rfl)); intro gb1109 hg w11 hbox hb; have n0_ := sk_' (pp_' (by repeat (first | (with_reducible first | exact HB.out | apply pa_' | apply pn_' | apply pd_') | exact HB.out)) hb); have n1_ := sk_' (hbox); have n2_ := sk_' ((by rw [hg]; exact (ps_' (by repeat (first | (with_reducible first | exact HB.out | apply pa_' | apply pn_' | apply pd_') | exact HB.out))) : w.heap.size ≤ gb1109)); have n3_ := sk_' ((by rw [hg]; exact (ps_' (by repeat (first | (with_reducible first | exact HB.out | apply pa_' | apply pn_' | apply pd_') | exact HB.out))) : w.heap.size ≤ gb1109)); clear HB; have HB := n0_; have BK1109 := n1_; have GW1109 := n2_; have GE1109 := n3_; clear n0_ n1_ n2_ n3_; clear hb hbox hg) | ((with_reducible refine xj_' (f := 82) rfl ?_); refine goesL_ (some 7) rfl rfl Try.func82 (by kernel_rfl) rfl #[.int .i64 a0, .int .i64 (-1000000000000000), .int .i64 1000000000000000] rfl (by (try simp only [xm_', xc_', xn_']); first | done | rfl | (simp only [xd_', xt_']; rfl)) ?_; (with_reducible refine (impl_InRange.calls a0 (-1000000000000000) 1000000000000000 true _ A3.out).mono ?_); rintro e w' ⟨rfl, ⟨nd, rfl⟩⟩; refine ⟨_, rfl, ?_⟩; (try (rw [drewN_self w11]; generalize hq_ : World.drewN w11 _ = w11; have n0_ : Aside0 (w11.heap[gb1109]? = some (.cells #[.int .i64 0, .int .i64 0] 134 (0, 0))) := ⟨by rw [← hq_]; exact (by (with_reducible repeat (first | refine kn_' ?_ _ | refine kd_' ?_ | refine ka_' ?_ _)); exact BK1109.out)⟩; have n1_ : Aside0 (Below w.heap.size w w11) := ⟨by rw [← hq_]; exact (by repeat (first | (with_reducible first | exact HB.out | apply pa_' | apply pn_' | apply pd_' | refine pt_' ?_ GE1109.out) | exact HB.out))⟩; clear BK1109 HB hq_; have BK1109 := n0_; have HB := n1_; clear n0_ n1_))) | (go_at_call 82; (with_reducible refine (impl_InRange.calls a1 (-1000000000000000) 1000000000000000 false _ A5.out).mono ?_); rintro e w' ⟨rfl, ⟨nd, rfl⟩⟩; (try (rw [drewN_self w11]; generalize hq_ : World.drewN w11 _ = w11; have n0_ : Aside0 (w11.heap[gb1109]? = some (.cells #[.int .i64 0, .int .i64 0] 134 (0, 0))) := ⟨by rw [← hq_]; exact (by (with_reducible repeat (first | refine kn_' ?_ _ | refine kd_' ?_ | refine ka_' ?_ _)); exact BK1109.out)⟩; have n1_ : Aside0 (Below w.heap.size w w11) := ⟨by rw [← hq_]; exact (by repeat (first | (with_reducible first | exact HB.out | apply pa_' | apply pn_' | apply pd_' | refine pt_' ?_ GE1109.out) | exact HB.out))⟩; clear BK1109 HB hq_; have BK1109 := n0_; have HB := n1_; clear n0_ n1_)); have hcz12_0 : w11.cell? ⟨gb1109, 0, none⟩ = some (.int .i64 0) := (kc_' BK1109.out 0).trans rfl; have hcz12_1 : w11.cell? ⟨gb1109, 1, none⟩ = some (.int .i64 0) := (kc_' BK1109.out 1).trans rfl; have hfz12_0 := kf_' BK1109.out 0; have hfz12_1 := kf_' BK1109.out 1))
  refine bodyPost_ret (results_ct rfl _ _ gb1109 134 #[.int .i64 0, .int .i64 0] (0, 0) _ rfl (by (with_reducible repeat (first | refine kn_' ?_ _ | refine kd_' ?_ | refine ka_' ?_ _)); refine blk_put (cs := #[.int .i64 0, .int .i64 0]) ?_ 1 _ rfl; (with_reducible repeat (first | refine kn_' ?_ _ | refine kd_' ?_ | refine ka_' ?_ _)); refine blk_put (cs := #[.int .i64 0, .int .i64 0]) ?_ 0 _ rfl; (with_reducible repeat (first | refine kn_' ?_ _ | refine kd_' ?_ | refine ka_' ?_ _)); exact BK1109.out) Try.underlying134 rfl (by kernel_rfl)) rfl ?_
  exact ⟨by first | rfl | (simp [errW_none, errW_some] <;> rfl) | (simp [*, errW_none, errW_some] <;> rfl), by repeat (first | (with_reducible first | exact HB.out | apply pa_' | apply pn_' | apply pd_' | refine pt_' ?_ GE1109.out) | exact HB.out)⟩
 replace c4 := Bool.eq_false_iff.mpr c4
 subst c4
 rw [if_neg (show ¬ (false = true) by decide)] at H
 simp only [Option.some.injEq, Prod.mk.injEq] at H
 obtain ⟨rfl, rfl, rfl⟩ := H
 go_enter Try.func152, Try.ntmps152
 go_wp2_with (first | ((with_reducible refine gate_dst (N := 4) rfl ?_); refine box_event ?hg (N := 4) ?hd (cs := #[.int .i64 0, .int .i64 0]) (t := 134) ?hr ?_; (case hd => rfl); (case hg => rfl); (case hr => first | (go_simp; done) | (go_simp; rfl)); intro gb1109 hg w13 hbox hb; have n0_ := sk_' (pp_' (by repeat (first | (with_reducible first | exact HB.out | apply pa_' | apply pn_' | apply pd_') | exact HB.out)) hb); have n1_ := sk_' (hbox); have n2_ := sk_' ((by rw [hg]; exact (ps_' (by repeat (first | (with_reducible first | exact HB.out | apply pa_' | apply pn_' | apply pd_') | exact HB.out))) : w.heap.size ≤ gb1109)); have n3_ := sk_' ((by rw [hg]; exact (ps_' (by repeat (first | (with_reducible first | exact HB.out | apply pa_' | apply pn_' | apply pd_') | exact HB.out))) : w.heap.size ≤ gb1109)); clear HB; have HB := n0_; have BK1109 := n1_; have GW1109 := n2_; have GE1109 := n3_; clear n0_ n1_ n2_ n3_; clear hb hbox hg) | ((with_reducible refine xj_' (f := 82) rfl ?_); refine goesL_ (some 7) rfl rfl Try.func82 (by kernel_rfl) rfl #[.int .i64 a0, .int .i64 (-1000000000000000), .int .i64 1000000000000000] rfl (by (try simp only [xm_', xc_', xn_']); first | done | rfl | (simp only [xd_', xt_']; rfl)) ?_; (with_reducible refine (impl_InRange.calls a0 (-1000000000000000) 1000000000000000 false _ A3.out).mono ?_); rintro e w' ⟨rfl, ⟨nd, rfl⟩⟩; refine ⟨_, rfl, ?_⟩; (try (rw [drewN_self w13]; generalize hq_ : World.drewN w13 _ = w13; have n0_ : Aside0 (w13.heap[gb1109]? = some (.cells #[.int .i64 0, .int .i64 0] 134 (0, 0))) := ⟨by rw [← hq_]; exact (by (with_reducible repeat (first | refine kn_' ?_ _ | refine kd_' ?_ | refine ka_' ?_ _)); exact BK1109.out)⟩; have n1_ : Aside0 (Below w.heap.size w w13) := ⟨by rw [← hq_]; exact (by repeat (first | (with_reducible first | exact HB.out | apply pa_' | apply pn_' | apply pd_' | refine pt_' ?_ GE1109.out) | exact HB.out))⟩; clear BK1109 HB hq_; have BK1109 := n0_; have HB := n1_; clear n0_ n1_)); have hcz14_0 : w13.cell? ⟨gb1109, 0, none⟩ = some (.int .i64 0) := (kc_' BK1109.out 0).trans rfl; have hcz14_1 : w13.cell? ⟨gb1109, 1, none⟩ = some (.int .i64 0) := (kc_' BK1109.out 1).trans rfl; have hfz14_0 := kf_' BK1109.out 0; have hfz14_1 := kf_' BK1109.out 1))
 refine bodyPost_ret (results_ct rfl _ _ gb1109 134 #[.int .i64 0, .int .i64 0] (0, 0) _ rfl (by (with_reducible repeat (first | refine kn_' ?_ _ | refine kd_' ?_ | refine ka_' ?_ _)); refine blk_put (cs := #[.int .i64 0, .int .i64 0]) ?_ 1 _ rfl; (with_reducible repeat (first | refine kn_' ?_ _ | refine kd_' ?_ | refine ka_' ?_ _)); refine blk_put (cs := #[.int .i64 0, .int .i64 0]) ?_ 0 _ rfl; (with_reducible repeat (first | refine kn_' ?_ _ | refine kd_' ?_ | refine ka_' ?_ _)); exact BK1109.out) Try.underlying134 rfl (by kernel_rfl)) rfl ?_
 exact ⟨by first | rfl | (simp [errW_none, errW_some] <;> rfl) | (simp [*, errW_none, errW_some] <;> rfl), by repeat (first | (with_reducible first | exact HB.out | apply pa_' | apply pn_' | apply pd_' | refine pt_' ?_ GE1109.out) | exact HB.out)⟩
end Go.Proofs.Ytiophiipmgpaeaa.F

namespace Go.Proofs.Ytiophiipmgpaeaa.F
open Go.RowKit Go.Proofs.YtiophiipmgpaeaaW.PrintWords Go.Proofs.YtiophiipmgpaeaaW.PrintLast Go.Proofs.YtiophiipmgpaeaaW.PrintMore
attribute [local go_sem] max2_int min2_int max_two min_two max_three min_three max_four min_four
set_option linter.unusedVariables false
set_option linter.unusedSimpArgs false
def impl_AddRatio.f (k : Nat) (a0_0 : Int) (a0_1 : Int) (a1_0 : Int) (a1_1 : Int) : Option (Int × Int × Bool) := (impl_IsRatio.f k a0_0 a0_1).bind fun t1118 => (if t1118 = true then ((impl_IsRatio.f k a1_0 a1_1).bind fun t1119 => (if t1119 = true then ((impl_lowest.f k (wrap64 ((wrap64 (a0_0 * a1_1)) + (wrap64 (a1_0 * a0_1)))) (wrap64 (a0_1 * a1_1))).bind fun bt1120 => (some (bt1120.1, bt1120.2.1, bt1120.2.2))) else (some (0, 0, false)))) else (some (0, 0, false)))
set_option maxHeartbeats 8000000 in
set_option maxRecDepth 100000 in
theorem impl_AddRatio.calls (k : Nat) (a0_0 : Int) (a0_1 : Int) (a1_0 : Int) (a1_1 : Int) (r1 : Int) (r2 : Int) (r3 : Bool) (w : World) (h : impl_AddRatio.f k a0_0 a0_1 a1_0 a1_1 = some (r1, r2, r3)) :
  Calls Try.prog 153 #[.agg #[.int .i64 a0_0, .int .i64 a0_1], .agg #[.int .i64 a1_0, .int .i64 a1_1]] w fun e w' => e = .returned (.tuple #[.agg #[.int .i64 r1, .int .i64 r2], .bool r3]) ∧ Below w.heap.size w w' := by
 have hu134 := Try.underlying134
 have HB := sk_' (Below.refl w.heap.size w)
 have H : ((impl_IsRatio.f k a0_0 a0_1).bind fun t1118 => (if t1118 = true then ((impl_IsRatio.f k a1_0 a1_1).bind fun t1119 => (if t1119 = true then ((impl_lowest.f k (wrap64 ((wrap64 (a0_0 * a1_1)) + (wrap64 (a1_0 * a0_1)))) (wrap64 (a0_1 * a1_1))).bind fun bt1120 => (some (bt1120.1, bt1120.2.1, bt1120.2.2))) else (some (0, 0, false)))) else (some (0, 0, false)))) = some (r1, r2, r3) := h
 clear h
 replace H := bs_' H
 obtain ⟨t1118, A30, H⟩ := H
 try dsimp only at H
 have A3 := sk_' A30
 clear A30
 by_cases c4 : t1118 = true
 ·
  subst c4
  rw [if_pos rfl] at H
  replace H := bs_' H
  obtain ⟨t1119, A50, H⟩ := H
  try dsimp only at H
  have A5 := sk_' A50
  clear A50
  by_cases c6 : t1119 = true
  ·
   subst c6
   rw [if_pos rfl] at H
   replace H := bs_' H
   obtain ⟨⟨t1120, t1121, t1122⟩, A70, H⟩ := H
   try dsimp only at H
   have A7 := sk_' A70
   clear A70
   simp only [Option.some.injEq, Prod.mk.injEq] at H
   obtain ⟨rfl, rfl, rfl⟩ := H
   go_enter Try.func153, Try.ntmps153
   go_wp2_with (first | ((with_reducible refine gate_dst (N := 2) rfl ?_); refine box_event ?hg (N := 2) ?hd (cs := #[.int .i64 a0_0, .int .i64 a0_1]) (t := 134) ?hr ?_; (case hd => rfl); (case hg => rfl); (case hr => first | (go_simp; done) | (go_simp; rfl)); intro gb1115 hg w8 hbox hb; have n0_ := sk_' (pp_' (by repeat (first | (with_reducible first | exact HB.out | apply pa_' | apply pn_' | apply pd_') | exact HB.out)) hb); have n1_ := sk_' (hbox); have n2_ := sk_' ((by rw [hg]; exact (ps_' (by repeat (first | (with_reducible first | exact HB.out | apply pa_' | apply pn_' | apply pd_') | exact HB.out))) : w.heap.size ≤ gb1115)); have n3_ := sk_' ((by rw [hg]; exact (ps_' (by repeat (first | (with_reducible first | exact HB.out | apply pa_' | apply pn_' | apply pd_') | exact HB.out))) : w.heap.size ≤ gb1115)); clear HB; have HB := n0_; have BK1115 := n1_; have GW1115 := n2_; have GE1115 := n3_; clear n0_ n1_ n2_ n3_; clear hb hbox hg) | ((with_reducible refine gate_dst (N := 3) rfl ?_); refine box_event ?hg (N := 3) ?hd (cs := #[.int .i64 a1_0, .int .i64 a1_1]) (t := 134) ?hr ?_; (case hd => rfl); (case hg => rfl); (case hr => first | (go_simp; done) | (go_simp; rfl)); intro gb1116 hg w9 hbox hb; have n0_ := sk_' (blk_below (g := gb1115) (o := .cells #[.int .i64 a0_0, .int .i64 a0_1] 134 (0, 0)) (by (with_reducible repeat (first | refine kn_' ?_ _ | refine kd_' ?_ | refine ka_' ?_ _)); exact BK1115.out) hb); have n1_ := sk_' (pp_' (by repeat (first | (with_reducible first | exact HB.out | apply pa_' | apply pn_' | apply pd_' | refine pt_' ?_ GE1115.out) | exact HB.out)) hb); have n2_ := sk_' (hbox); have n3_ := sk_' ((by rw [hg]; exact (ps_' (by repeat (first | (with_reducible first | exact HB.out | apply pa_' | apply pn_' | apply pd_' | refine pt_' ?_ GE1115.out) | exact HB.out))) : w.heap.size ≤ gb1116)); have n4_ := sk_' ((by rw [hg]; exact (ps_' (by repeat (first | (with_reducible first | exact HB.out | apply pa_' | apply pn_' | apply pd_' | refine pt_' ?_ GE1115.out) | exact HB.out))) : w.heap.size ≤ gb1116)); have n5_ := sk_' ((by rw [hg]; exact Nat.ne_of_lt (blk_lt (g := gb1115) (o := .cells #[.int .i64 a0_0, .int .i64 a0_1] 134 (0, 0)) (by (with_reducible repeat (first | refine kn_' ?_ _ | refine kd_' ?_ | refine ka_' ?_ _)); exact BK1115.out)) : gb1115 ≠ gb1116)); have n6_ := sk_' ((by rw [hg]; exact Nat.ne_of_gt (blk_lt (g := gb1115) (o := .cells #[.int .i64 a0_0, .int .i64 a0_1] 134 (0, 0)) (by (with_reducible repeat (first | refine kn_' ?_ _ | refine kd_' ?_ | refine ka_' ?_ _)); exact BK1115.out)) : gb1116 ≠ gb1115)); clear BK1115; clear HB; have BK1115 := n0_; have HB := n1_; have BK1116 := n2_; have GW1116 := n3_; have GE1116 := n4_; have NB1115_1116 := n5_; have NB1116_1115 := n6_; clear n0_ n1_ n2_ n3_ n4_ n5_ n6_; clear hb hbox hg) | ((with_reducible refine gate_dst (N := 4) rfl ?_); refine box_event ?hg (N := 4) ?hd (cs := #[.int .i64 0, .int .i64 0]) (t := 134) ?hr ?_; (case hd => rfl); (case hg => rfl); (case hr => first | (go_simp; done) | (go_simp; rfl)); intro gb1117 hg w10 hbox hb; have n0_ := sk_' (blk_below (g := gb1115) (o := .cells #[.int .i64 a0_0, .int .i64 a0_1] 134 (0, 0)) (by (with_reducible repeat (first | refine kn_' ?_ _ | refine kd_' ?_ | refine ka_' ?_ _)); exact BK1115.out) hb); have n1_ := sk_' (blk_below (g := gb1116) (o := .cells #[.int .i64 a1_0, .int .i64 a1_1] 134 (0, 0)) (by (with_reducible repeat (first | refine kn_' ?_ _ | refine kd_' ?_ | refine ka_' ?_ _)); exact BK1116.out) hb); have n2_ := sk_' (pp_' (by repeat (first | (with_reducible first | exact HB.out | apply pa_' | apply pn_' | apply pd_' | refine pt_' ?_ GE1115.out | refine pt_' ?_ GE1116.out) | exact HB.out)) hb); have n3_ := sk_' (hbox); have n4_ := sk_' ((by rw [hg]; exact (ps_' (by repeat (first | (with_reducible first | exact HB.out | apply pa_' | apply pn_' | apply pd_' | refine pt_' ?_ GE1115.out | refine pt_' ?_ GE1116.out) | exact HB.out))) : w.heap.size ≤ gb1117)); have n5_ := sk_' ((by rw [hg]; exact (ps_' (by repeat (first | (with_reducible first | exact HB.out | apply pa_' | apply pn_' | apply pd_' | refine pt_' ?_ GE1115.out | refine pt_' ?_ GE1116.out) | exact HB.out))) : w.heap.size ≤ gb1117)); have n6_ := sk_' ((by rw [hg]; exact Nat.ne_of_lt (blk_lt (g := gb1115) (o := .cells #[.int .i64 a0_0, .int .i64 a0_1] 134 (0, 0)) (by (with_reducible repeat (first | refine kn_' ?_ _ | refine kd_' ?_ | refine ka_' ?_ _)); exact BK1115.out)) : gb1115 ≠ gb1117)); have n7_ := sk_' ((by rw [hg]; exact Nat.ne_of_gt (blk_lt (g := gb1115) (o := .cells #[.int .i64 a0_0, .int .i64 a0_1] 134 (0, 0)) (by (with_reducible repeat (first | refine kn_' ?_ _ | refine kd_' ?_ | refine ka_' ?_ _)); exact BK1115.out)) : gb1117 ≠ gb1115)); have n8_ := sk_' ((by rw [hg]; exact Nat.ne_of_lt (blk_lt (g := gb1116) (o := .cells #[.int .i64 a1_0, .int .i64 a1_1] 134 (0, 0)) (by (with_reducible repeat (first | refine kn_' ?_ _ | refine kd_' ?_ | refine ka_' ?_ _)); exact BK1116.out)) : gb1116 ≠ gb1117)); have n9_ := sk_' ((by rw [hg]; exact Nat.ne_of_gt (blk_lt (g := gb1116) (o := .cells #[.int .i64 a1_0, .int .i64 a1_1] 134 (0, 0)) (by (with_reducible repeat (first | refine kn_' ?_ _ | refine kd_' ?_ | refine ka_' ?_ _)); exact BK1116.out)) : gb1117 ≠ gb1116)); clear BK1115; clear BK1116; clear HB; have BK1115 := n0_; have BK1116 := n1_; have HB := n2_; have BK1117 := n3_; have GW1117 := n4_; have GE1117 := n5_; have NB1115_1117 := n6_; have NB1117_1115 := n7_; have NB1116_1117 := n8_; have NB1117_1116 := n9_; clear n0_ n1_ n2_ n3_ n4_ n5_ n6_ n7_ n8_ n9_; clear hb hbox hg; have hnb11 := NB1115_1116.out; have hnc11 := NB1116_1115.out; have hnb12 := NB1115_1117.out; have hnc12 := NB1117_1115.out; have hcz13_0 : w10.cell? ⟨gb1115, 0, none⟩ = some (.int .i64 a0_0) := (kc_' BK1115.out 0).trans rfl; have hcz13_1 : w10.cell? ⟨gb1115, 1, none⟩ = some (.int .i64 a0_1) := (kc_' BK1115.out 1).trans rfl; have hfz13_0 := kf_' BK1115.out 0; have hfz13_1 := kf_' BK1115.out 1) | ((with_reducible refine xj_' (f := 154) rfl ?_); refine goesL_ (some 7) rfl rfl Try.func154 (by kernel_rfl) rfl #[.agg #[.int .i64 a0_0, .int .i64 a0_1]] rfl (by (try simp only [xm_', xc_', xn_']); first | done | rfl | (simp only [xd_', xt_']; rfl)) ?_; (with_reducible refine (impl_IsRatio.calls k a0_0 a0_1 true _ A3.out).mono ?_); rintro e w14 ⟨rfl, hb⟩; refine ⟨_, rfl, ?_⟩; have n0_ := sk_' (blk_below (g := gb1115) (o := .cells #[.int .i64 a0_0, .int .i64 a0_1] 134 (0, 0)) (by (with_reducible repeat (first | refine kn_' ?_ _ | refine kd_' ?_ | refine ka_' ?_ _)); exact BK1115.out) hb); have n1_ := sk_' (blk_below (g := gb1116) (o := .cells #[.int .i64 a1_0, .int .i64 a1_1] 134 (0, 0)) (by (with_reducible repeat (first | refine kn_' ?_ _ | refine kd_' ?_ | refine ka_' ?_ _)); exact BK1116.out) hb); have n2_ := sk_' (blk_below (g := gb1117) (o := .cells #[.int .i64 0, .int .i64 0] 134 (0, 0)) (by (with_reducible repeat (first | refine kn_' ?_ _ | refine kd_' ?_ | refine ka_' ?_ _)); exact BK1117.out) hb); have n3_ := sk_' (pp_' (by repeat (first | (with_reducible first | exact HB.out | apply pa_' | apply pn_' | apply pd_' | refine pt_' ?_ GE1115.out | refine pt_' ?_ GE1116.out | refine pt_' ?_ GE1117.out) | exact HB.out)) hb); clear BK1115; clear BK1116; clear BK1117; clear HB; have BK1115 := n0_; have BK1116 := n1_; have BK1117 := n2_; have HB := n3_; clear n0_ n1_ n2_ n3_; (try clear hb); (try clear hb2); (try clear hk); (try clear hi); have hnb15 := NB1116_1117.out; have hnc15 := NB1117_1116.out; have hcz16_0 : w14.cell? ⟨gb1116, 0, none⟩ = some (.int .i64 a1_0) := (kc_' BK1116.out 0).trans rfl; have hcz16_1 : w14.cell? ⟨gb1116, 1, none⟩ = some (.int .i64 a1_1) := (kc_' BK1116.out 1).trans rfl; have hfz16_0 := kf_' BK1116.out 0; have hfz16_1 := kf_' BK1116.out 1) | (go_at_call 154; (with_reducible refine (impl_IsRatio.calls k a1_0 a1_1 true _ A5.out).mono ?_); rintro e w17 ⟨rfl, hb⟩; have n0_ := sk_' (blk_below (g := gb1115) (o := .cells #[.int .i64 a0_0, .int .i64 a0_1] 134 (0, 0)) (by (with_reducible repeat (first | refine kn_' ?_ _ | refine kd_' ?_ | refine ka_' ?_ _)); exact BK1115.out) hb); have n1_ := sk_' (blk_below (g := gb1116) (o := .cells #[.int .i64 a1_0, .int .i64 a1_1] 134 (0, 0)) (by (with_reducible repeat (first | refine kn_' ?_ _ | refine kd_' ?_ | refine ka_' ?_ _)); exact BK1116.out) hb); have n2_ := sk_' (blk_below (g := gb1117) (o := .cells #[.int .i64 0, .int .i64 0] 134 (0, 0)) (by (with_reducible repeat (first | refine kn_' ?_ _ | refine kd_' ?_ | refine ka_' ?_ _)); exact BK1117.out) hb); have n3_ := sk_' (pp_' (by repeat (first | (with_reducible first | exact HB.out | apply pa_' | apply pn_' | apply pd_' | refine pt_' ?_ GE1115.out | refine pt_' ?_ GE1116.out | refine pt_' ?_ GE1117.out) | exact HB.out)) hb); clear BK1115; clear BK1116; clear BK1117; clear HB; have BK1115 := n0_; have BK1116 := n1_; have BK1117 := n2_; have HB := n3_; clear n0_ n1_ n2_ n3_; (try clear hb); (try clear hb2); (try clear hk); (try clear hi); have hcz18_0 : w17.cell? ⟨gb1115, 0, none⟩ = some (.int .i64 a0_0) := (kc_' BK1115.out 0).trans rfl; have hcz18_1 : w17.cell? ⟨gb1115, 1, none⟩ = some (.int .i64 a0_1) := (kc_' BK1115.out 1).trans rfl; have hfz18_0 := kf_' BK1115.out 0; have hfz18_1 := kf_' BK1115.out 1; have hcz19_0 : w17.cell? ⟨gb1116, 0, none⟩ = some (.int .i64 a1_0) := (kc_' BK1116.out 0).trans rfl; have hcz19_1 : w17.cell? ⟨gb1116, 1, none⟩ = some (.int .i64 a1_1) := (kc_' BK1116.out 1).trans rfl; have hfz19_0 := kf_' BK1116.out 0; have hfz19_1 := kf_' BK1116.out 1) | ((with_reducible refine xj_' (f := 178) rfl ?_); refine goesL_ (some 31) rfl rfl Try.func178 (by kernel_rfl) rfl #[.int .i64 (wrap64 ((wrap64 (a0_0 * a1_1)) + (wrap64 (a1_0 * a0_1)))), .int .i64 (wrap64 (a0_1 * a1_1))] rfl (by (try simp only [xm_', xc_', xn_']); first | done | rfl | (simp only [xd_', xt_']; rfl)) ?_; (with_reducible refine (impl_lowest.calls k (wrap64 ((wrap64 (a0_0 * a1_1)) + (wrap64 (a1_0 * a0_1)))) (wrap64 (a0_1 * a1_1)) t1120 t1121 t1122 _ A7.out).mono ?_); rintro e w20 ⟨rfl, hb⟩; refine ⟨_, rfl, ?_⟩; have n0_ := sk_' (blk_below (g := gb1115) (o := .cells #[.int .i64 a0_0, .int .i64 a0_1] 134 (0, 0)) (by (with_reducible repeat (first | refine kn_' ?_ _ | refine kd_' ?_ | refine ka_' ?_ _)); exact BK1115.out) hb); have n1_ := sk_' (blk_below (g := gb1116) (o := .cells #[.int .i64 a1_0, .int .i64 a1_1] 134 (0, 0)) (by (with_reducible repeat (first | refine kn_' ?_ _ | refine kd_' ?_ | refine ka_' ?_ _)); exact BK1116.out) hb); have n2_ := sk_' (blk_below (g := gb1117) (o := .cells #[.int .i64 0, .int .i64 0] 134 (0, 0)) (by (with_reducible repeat (first | refine kn_' ?_ _ | refine kd_' ?_ | refine ka_' ?_ _)); exact BK1117.out) hb); have n3_ := sk_' (pp_' (by repeat (first | (with_reducible first | exact HB.out | apply pa_' | apply pn_' | apply pd_' | refine pt_' ?_ GE1115.out | refine pt_' ?_ GE1116.out | refine pt_' ?_ GE1117.out) | exact HB.out)) hb); clear BK1115; clear BK1116; clear BK1117; clear HB; have BK1115 := n0_; have BK1116 := n1_; have BK1117 := n2_; have HB := n3_; clear n0_ n1_ n2_ n3_; (try clear hb); (try clear hb2); (try clear hk); (try clear hi); have hcz21_0 : w20.cell? ⟨gb1117, 0, none⟩ = some (.int .i64 0) := (kc_' BK1117.out 0).trans rfl; have hcz21_1 : w20.cell? ⟨gb1117, 1, none⟩ = some (.int .i64 0) := (kc_' BK1117.out 1).trans rfl; have hfz21_0 := kf_' BK1117.out 0; have hfz21_1 := kf_' BK1117.out 1))
   refine bodyPost_ret (results_ct rfl _ _ gb1117 134 #[.int .i64 t1120, .int .i64 t1121] (0, 0) _ rfl (by (with_reducible repeat (first | refine kn_' ?_ _ | refine kd_' ?_ | refine ka_' ?_ _)); refine blk_put (cs := #[.int .i64 t1120, .int .i64 0]) ?_ 1 _ rfl; (with_reducible repeat (first | refine kn_' ?_ _ | refine kd_' ?_ | refine ka_' ?_ _)); refine blk_put (cs := #[.int .i64 0, .int .i64 0]) ?_ 0 _ rfl; (with_reducible repeat (first | refine kn_' ?_ _ | refine kd_' ?_ | refine ka_' ?_ _)); exact BK1117.out) Try.underlying134 rfl (by kernel_rfl)) rfl ?_
   exact ⟨by first | rfl | (simp [errW_none, errW_some] <;> rfl) | (simp [*, errW_none, errW_some] <;> rfl), by repeat (first | (with_reducible first | exact HB.out | apply pa_' | apply pn_' | apply pd_' | refine pt_' ?_ GE1115.out | refine pt_' ?_ GE1116.out | refine pt_' ?_ GE1117.out) | exact HB.out)⟩
  replace c6 := Bool.eq_false_iff.mpr c6
  subst c6
  rw [if_neg (show ¬ (false = true) by decide)] at H
  simp only [Option.some.injEq, Prod.mk.injEq] at H
  obtain ⟨rfl, rfl, rfl⟩ := H
  go_enter Try.func153, Try.ntmps153
  go_wp2_with (first | ((with_reducible refine gate_dst (N := 2) rfl ?_); refine box_event ?hg (N := 2) ?hd (cs := #[.int .i64 a0_0, .int .i64 a0_1]) (t := 134) ?hr ?_; (case hd => rfl); (case hg => rfl); (case hr => first | (go_simp; done) | (go_simp; rfl)); intro gb1115 hg w22 hbox hb; have n0_ := sk_' (pp_' (by repeat (first | (with_reducible first | exact HB.out | apply pa_' | apply pn_' | apply pd_') | exact HB.out)) hb); have n1_ := sk_' (hbox); have n2_ := sk_' ((by rw [hg]; exact (ps_' (by repeat (first | (with_reducible first | exact HB.out | apply pa_' | apply pn_' | apply pd_') | exact HB.out))) : w.heap.size ≤ gb1115)); have n3_ := sk_' ((by rw [hg]; exact (ps_' (by repeat (first | (with_reducible first | exact HB.out | apply pa_' | apply pn_' | apply pd_') | exact HB.out))) : w.heap.size ≤ gb1115)); clear HB; have HB := n0_; have BK1115 := n1_; have GW1115 := n2_; have GE1115 := n3_; clear n0_ n1_ n2_ n3_; clear hb hbox hg) | ((with_reducible refine gate_dst (N := 3) rfl ?_); refine box_event ?hg (N := 3) ?hd (cs := #[.int .i64 a1_0, .int .i64 a1_1]) (t := 134) ?hr ?_; (case hd => rfl); (case hg => rfl); (case hr => first | (go_simp; done) | (go_simp; rfl)); intro gb1116 hg w23 hbox hb; have n0_ := sk_' (blk_below (g := gb1115) (o := .cells #[.int .i64 a0_0, .int .i64 a0_1] 134 (0, 0)) (by (with_reducible repeat (first | refine kn_' ?_ _ | refine kd_' ?_ | refine ka_' ?_ _)); exact BK1115.out) hb); have n1_ := sk_' (pp_' (by repeat (first | (with_reducible first | exact HB.out | apply pa_' | apply pn_' | apply pd_' | refine pt_' ?_ GE1115.out) | exact HB.out)) hb); have n2_ := sk_' (hbox); have n3_ := sk_' ((by rw [hg]; exact (ps_' (by repeat (first | (with_reducible first | exact HB.out | apply pa_' | apply pn_' | apply pd_' | refine pt_' ?_ GE1115.out) | exact HB.out))) : w.heap.size ≤ gb1116)); have n4_ := sk_' ((by rw [hg]; exact (ps_' (by repeat (first | (with_reducible first | exact HB.out | apply pa_' | apply pn_' | apply pd_' | refine pt_' ?_ GE1115.out) | exact HB.out))) : w.heap.size ≤ gb1116)); have n5_ := sk_' ((by rw [hg]; exact Nat.ne_of_lt (blk_lt (g := gb1115) (o := .cells #[.int .i64 a0_0, .int .i64 a0_1] 134 (0, 0)) (by (with_reducible repeat (first | refine kn_' ?_ _ | refine kd_' ?_ | refine ka_' ?_ _)); exact BK1115.out)) : gb1115 ≠ gb1116)); have n6_ := sk_' ((by rw [hg]; exact Nat.ne_of_gt (blk_lt (g := gb1115) (o := .cells #[.int .i64 a0_0, .int .i64 a0_1] 134 (0, 0)) (by (with_reducible repeat (first | refine kn_' ?_ _ | refine kd_' ?_ | refine ka_' ?_ _)); exact BK1115.out)) : gb1116 ≠ gb1115)); clear BK1115; clear HB; have BK1115 := n0_; have HB := n1_; have BK1116 := n2_; have GW1116 := n3_; have GE1116 := n4_; have NB1115_1116 := n5_; have NB1116_1115 := n6_; clear n0_ n1_ n2_ n3_ n4_ n5_ n6_; clear hb hbox hg) | ((with_reducible refine gate_dst (N := 4) rfl ?_); refine box_event ?hg (N := 4) ?hd (cs := #[.int .i64 0, .int .i64 0]) (t := 134) ?hr ?_; (case hd => rfl); (case hg => rfl); (case hr => first | (go_simp; done) | (go_simp; rfl)); intro gb1117 hg w24 hbox hb; have n0_ := sk_' (blk_below (g := gb1115) (o := .cells #[.int .i64 a0_0, .int .i64 a0_1] 134 (0, 0)) (by (with_reducible repeat (first | refine kn_' ?_ _ | refine kd_' ?_ | refine ka_' ?_ _)); exact BK1115.out) hb); have n1_ := sk_' (blk_below (g := gb1116) (o := .cells #[.int .i64 a1_0, .int .i64 a1_1] 134 (0, 0)) (by (with_reducible repeat (first | refine kn_' ?_ _ | refine kd_' ?_ | refine ka_' ?_ _)); exact BK1116.out) hb); have n2_ := sk_' (pp_' (by repeat (first | (with_reducible first | exact HB.out | apply pa_' | apply pn_' | apply pd_' | refine pt_' ?_ GE1115.out | refine pt_' ?_ GE1116.out) | exact HB.out)) hb); have n3_ := sk_' (hbox); have n4_ := sk_' ((by rw [hg]; exact (ps_' (by repeat (first | (with_reducible first | exact HB.out | apply pa_' | apply pn_' | apply pd_' | refine pt_' ?_ GE1115.out | refine pt_' ?_ GE1116.out) | exact HB.out))) : w.heap.size ≤ gb1117)); have n5_ := sk_' ((by rw [hg]; exact (ps_' (by repeat (first | (with_reducible first | exact HB.out | apply pa_' | apply pn_' | apply pd_' | refine pt_' ?_ GE1115.out | refine pt_' ?_ GE1116.out) | exact HB.out))) : w.heap.size ≤ gb1117)); have n6_ := sk_' ((by rw [hg]; exact Nat.ne_of_lt (blk_lt (g := gb1115) (o := .cells #[.int .i64 a0_0, .int .i64 a0_1] 134 (0, 0)) (by (with_reducible repeat (first | refine kn_' ?_ _ | refine kd_' ?_ | refine ka_' ?_ _)); exact BK1115.out)) : gb1115 ≠ gb1117)); have n7_ := sk_' ((by rw [hg]; exact Nat.ne_of_gt (blk_lt (g := gb1115) (o := .cells #[.int .i64 a0_0, .int .i64 a0_1] 134 (0, 0)) (by (with_reducible repeat (first | refine kn_' ?_ _ | refine kd_' ?_ | refine ka_' ?_ _)); exact BK1115.out)) : gb1117 ≠ gb1115)); have n8_ := sk_' ((by rw [hg]; exact Nat.ne_of_lt (blk_lt (g := gb1116) (o := .cells #[.int .i64 a1_0, .int .i64 a1_1] 134 (0, 0)) (by (with_reducible repeat (first | refine kn_' ?_ _ | refine kd_' ?_ | refine ka_' ?_ _)); exact BK1116.out)) : gb1116 ≠ gb1117)); have n9_ := sk_' ((by rw [hg]; exact Nat.ne_of_gt (blk_lt (g := gb1116) (o := .cells #[.int .i64 a1_0, .int .i64 a1_1] 134 (0, 0)) (by (with_reducible repeat (first | refine kn_' ?_ _ | refine kd_' ?_ | refine ka_' ?_ _)); exact BK1116.out)) : gb1117 ≠ gb1116)); clear BK1115; clear BK1116; clear HB; have BK1115 := n0_; have BK1116 := n1_; have HB := n2_; have BK1117 := n3_; have GW1117 := n4_; have GE1117 := n5_; have NB1115_1117 := n6_; have NB1117_1115 := n7_; have NB1116_1117 := n8_; have NB1117_1116 := n9_; clear n0_ n1_ n2_ n3_ n4_ n5_ n6_ n7_ n8_ n9_; clear hb hbox hg; have hnb25 := NB1115_1116.out; have hnc25 := NB1116_1115.out; have hnb26 := NB1115_1117.out; have hnc26 := NB1117_1115.out; have hcz27_0 : w24.cell? ⟨gb1115, 0, none⟩ = some (.int .i64 a0_0) := (kc_' BK1115.out 0).trans rfl; have hcz27_1 : w24.cell? ⟨gb1115, 1, none⟩ = some (.int .i64 a0_1) := (kc_' BK1115.out 1).trans rfl; have hfz27_0 := kf_' BK1115.out 0; have hfz27_1 := kf_' BK1115.out 1) | ((with_reducible refine xj_' (f := 154) rfl ?_); refine goesL_ (some 7) rfl rfl Try.func154 (by kernel_rfl) rfl #[.agg #[.int .i64 a0_0, .int .i64 a0_1]] rfl (by (try simp only [xm_', xc_', xn_']); first | done | rfl | (simp only [xd_', xt_']; rfl)) ?_; (with_reducible refine (impl_IsRatio.calls k a0_0 a0_1 true _ A3.out).mono ?_); rintro e w28 ⟨rfl, hb⟩; refine ⟨_, rfl, ?_⟩; have n0_ := sk_' (blk_below (g := gb1115) (o := .cells #[.int .i64 a0_0, .int .i64 a0_1] 134 (0, 0)) (by (with_reducible repeat (first | refine kn_' ?_ _ | refine kd_' ?_ | refine ka_' ?_ _)); exact BK1115.out) hb); have n1_ := sk_' (blk_below (g := gb1116) (o := .cells #[.int .i64 a1_0, .int .i64 a1_1] 134 (0, 0)) (by (with_reducible repeat (first | refine kn_' ?_ _ | refine kd_' ?_ | refine ka_' ?_ _)); exact BK1116.out) hb); have n2_ := sk_' (blk_below (g := gb1117) (o := .cells #[.int .i64 0, .int .i64 0] 134 (0, 0)) (by (with_reducible repeat (first | refine kn_' ?_ _ | refine kd_' ?_ | refine ka_' ?_ _)); exact BK1117.out) hb); have n3_ := sk_' (pp_' (by repeat (first | (with_reducible first | exact HB.out | apply pa_' | apply pn_' | apply pd_' | refine pt_' ?_ GE1115.out | refine pt_' ?_ GE1116.out | refine pt_' ?_ GE1117.out) | exact HB.out)) hb); clear BK1115; clear BK1116; clear BK1117; clear HB; have BK1115 := n0_; have BK1116 := n1_; have BK1117 := n2_; have HB := n3_; clear n0_ n1_ n2_ n3_; (try clear hb); (try clear hb2); (try clear hk); (try clear hi); have hnb29 := NB1116_1117.out; have hnc29 := NB1117_1116.out; have hcz30_0 : w28.cell? ⟨gb1116, 0, none⟩ = some (.int .i64 a1_0) := (kc_' BK1116.out 0).trans rfl; have hcz30_1 : w28.cell? ⟨gb1116, 1, none⟩ = some (.int .i64 a1_1) := (kc_' BK1116.out 1).trans rfl; have hfz30_0 := kf_' BK1116.out 0; have hfz30_1 := kf_' BK1116.out 1) | (go_at_call 154; (with_reducible refine (impl_IsRatio.calls k a1_0 a1_1 false _ A5.out).mono ?_); rintro e w31 ⟨rfl, hb⟩; have n0_ := sk_' (blk_below (g := gb1115) (o := .cells #[.int .i64 a0_0, .int .i64 a0_1] 134 (0, 0)) (by (with_reducible repeat (first | refine kn_' ?_ _ | refine kd_' ?_ | refine ka_' ?_ _)); exact BK1115.out) hb); have n1_ := sk_' (blk_below (g := gb1116) (o := .cells #[.int .i64 a1_0, .int .i64 a1_1] 134 (0, 0)) (by (with_reducible repeat (first | refine kn_' ?_ _ | refine kd_' ?_ | refine ka_' ?_ _)); exact BK1116.out) hb); have n2_ := sk_' (blk_below (g := gb1117) (o := .cells #[.int .i64 0, .int .i64 0] 134 (0, 0)) (by (with_reducible repeat (first | refine kn_' ?_ _ | refine kd_' ?_ | refine ka_' ?_ _)); exact BK1117.out) hb); have n3_ := sk_' (pp_' (by repeat (first | (with_reducible first | exact HB.out | apply pa_' | apply pn_' | apply pd_' | refine pt_' ?_ GE1115.out | refine pt_' ?_ GE1116.out | refine pt_' ?_ GE1117.out) | exact HB.out)) hb); clear BK1115; clear BK1116; clear BK1117; clear HB; have BK1115 := n0_; have BK1116 := n1_; have BK1117 := n2_; have HB := n3_; clear n0_ n1_ n2_ n3_; (try clear hb); (try clear hb2); (try clear hk); (try clear hi); have hcz32_0 : w31.cell? ⟨gb1117, 0, none⟩ = some (.int .i64 0) := (kc_' BK1117.out 0).trans rfl; have hcz32_1 : w31.cell? ⟨gb1117, 1, none⟩ = some (.int .i64 0) := (kc_' BK1117.out 1).trans rfl; have hfz32_0 := kf_' BK1117.out 0; have hfz32_1 := kf_' BK1117.out 1))
  refine bodyPost_ret (results_ct rfl _ _ gb1117 134 #[.int .i64 0, .int .i64 0] (0, 0) _ rfl (by (with_reducible repeat (first | refine kn_' ?_ _ | refine kd_' ?_ | refine ka_' ?_ _)); refine blk_put (cs := #[.int .i64 0, .int .i64 0]) ?_ 1 _ rfl; (with_reducible repeat (first | refine kn_' ?_ _ | refine kd_' ?_ | refine ka_' ?_ _)); refine blk_put (cs := #[.int .i64 0, .int .i64 0]) ?_ 0 _ rfl; (with_reducible repeat (first | refine kn_' ?_ _ | refine kd_' ?_ | refine ka_' ?_ _)); exact BK1117.out) Try.underlying134 rfl (by kernel_rfl)) rfl ?_
  exact ⟨by first | rfl | (simp [errW_none, errW_some] <;> rfl) | (simp [*, errW_none, errW_some] <;> rfl), by repeat (first | (with_reducible first | exact HB.out | apply pa_' | apply pn_' | apply pd_' | refine pt_' ?_ GE1115.out | refine pt_' ?_ GE1116.out | refine pt_' ?_ GE1117.out) | exact HB.out)⟩
 replace c4 := Bool.eq_false_iff.mpr c4
 subst c4
 rw [if_neg (show ¬ (false = true) by decide)] at H
 simp only [Option.some.injEq, Prod.mk.injEq] at H
 obtain ⟨rfl, rfl, rfl⟩ := H
 go_enter Try.func153, Try.ntmps153
 go_wp2_with (first | ((with_reducible refine gate_dst (N := 2) rfl ?_); refine box_event ?hg (N := 2) ?hd (cs := #[.int .i64 a0_0, .int .i64 a0_1]) (t := 134) ?hr ?_; (case hd => rfl); (case hg => rfl); (case hr => first | (go_simp; done) | (go_simp; rfl)); intro gb1115 hg w33 hbox hb; have n0_ := sk_' (pp_' (by repeat (first | (with_reducible first | exact HB.out | apply pa_' | apply pn_' | apply pd_') | exact HB.out)) hb); have n1_ := sk_' (hbox); have n2_ := sk_' ((by rw [hg]; exact (ps_' (by repeat (first | (with_reducible first | exact HB.out | apply pa_' | apply pn_' | apply pd_') | exact HB.out))) : w.heap.size ≤ gb1115)); have n3_ := sk_' ((by rw [hg]; exact (ps_' (by repeat (first | (with_reducible first | exact HB.out | apply pa_' | apply pn_' | apply pd_') | exact HB.out))) : w.heap.size ≤ gb1115)); clear HB; have HB := n0_; have BK1115 := n1_; have GW1115 := n2_; have GE1115 := n3_; clear n0_ n1_ n2_ n3_; clear hb hbox hg) | ((with_reducible refine gate_dst (N := 3) rfl ?_); refine box_event ?hg (N := 3) ?hd (cs := #[.int .i64 a1_0, .int .i64 a1_1]) (t := 134) ?hr ?_; (case hd => rfl); (case hg => rfl); (case hr => first | (go_simp; done) | (go_simp; rfl)); intro gb1116 hg w34 hbox hb; have n0_ := sk_' (blk_below (g := gb1115) (o := .cells #[.int .i64 a0_0, .int .i64 a0_1] 134 (0, 0)) (by (with_reducible repeat (first | refine kn_' ?_ _ | refine kd_' ?_ | refine ka_' ?_ _)); exact BK1115.out) hb); have n1_ := sk_' (pp_' (by repeat (first | (with_reducible first | exact HB.out | apply pa_' | apply pn_' | apply pd_' | refine pt_' ?_ GE1115.out) | exact HB.out)) hb); have n2_ := sk_' (hbox); have n3_ := sk_' ((by rw [hg]; exact (ps_' (by repeat (first | (with_reducible first | exact HB.out | apply pa_' | apply pn_' | apply pd_' | refine pt_' ?_ GE1115.out) | exact HB.out))) : w.heap.size ≤ gb1116)); have n4_ := sk_' ((by rw [hg]; exact (ps_' (by repeat (first | (with_reducible first | exact HB.out | apply pa_' | apply pn_' | apply pd_' | refine pt_' ?_ GE1115.out) | exact HB.out))) : w.heap.size ≤ gb1116)); have n5_ := sk_' ((by rw [hg]; exact Nat.ne_of_lt (blk_lt (g := gb1115) (o := .cells #[.int .i64 a0_0, .int .i64 a0_1] 134 (0, 0)) (by (with_reducible repeat (first | refine kn_' ?_ _ | refine kd_' ?_ | refine ka_' ?_ _)); exact BK1115.out)) : gb1115 ≠ gb1116)); have n6_ := sk_' ((by rw [hg]; exact Nat.ne_of_gt (blk_lt (g := gb1115) (o := .cells #[.int .i64 a0_0, .int .i64 a0_1] 134 (0, 0)) (by (with_reducible repeat (first | refine kn_' ?_ _ | refine kd_' ?_ | refine ka_' ?_ _)); exact BK1115.out)) : gb1116 ≠ gb1115)); clear BK1115; clear HB; have BK1115 := n0_; have HB := n1_; have BK1116 := n2_; have GW1116 := n3_; have GE1116 := n4_; have NB1115_1116 := n5_; have NB1116_1115 := n6_; clear n0_ n1_ n2_ n3_ n4_ n5_ n6_; clear hb hbox hg) | ((with_reducible refine gate_dst (N := 4) rfl ?_); refine box_event ?hg (N := 4) ?hd (cs := #[.int .i64 0, .int .i64 0]) (t := 134) ?hr ?_; (case hd => rfl); (case hg => rfl); (case hr => first | (go_simp; done) | (go_simp; rfl)); intro gb1117 hg w35 hbox hb; have n0_ := sk_' (blk_below (g := gb1115) (o := .cells #[.int .i64 a0_0, .int .i64 a0_1] 134 (0, 0)) (by (with_reducible repeat (first | refine kn_' ?_ _ | refine kd_' ?_ | refine ka_' ?_ _)); exact BK1115.out) hb); have n1_ := sk_' (blk_below (g := gb1116) (o := .cells #[.int .i64 a1_0, .int .i64 a1_1] 134 (0, 0)) (by (with_reducible repeat (first | refine kn_' ?_ _ | refine kd_' ?_ | refine ka_' ?_ _)); exact BK1116.out) hb); have n2_ := sk_' (pp_' (by repeat (first | (with_reducible first | exact HB.out | apply pa_' | apply pn_' | apply pd_' | refine pt_' ?_ GE1115.out | refine pt_' ?_ GE1116.out) | exact HB.out)) hb); have n3_ := sk_' (hbox); have n4_ := sk_' ((by rw [hg]; exact (ps_' (by repeat (first | (with_reducible first | exact HB.out | apply pa_' | apply pn_' | apply pd_' | refine pt_' ?_ GE1115.out | refine pt_' ?_ GE1116.out) | exact HB.out))) : w.heap.size ≤ gb1117)); have n5_ := sk_' ((by rw [hg]; exact (ps_' (by repeat (first | (with_reducible first | exact HB.out | apply pa_' | apply pn_' | apply pd_' | refine pt_' ?_ GE1115.out | refine pt_' ?_ GE1116.out) | exact HB.out))) : w.heap.size ≤ gb1117)); have n6_ := sk_' ((by rw [hg]; exact Nat.ne_of_lt (blk_lt (g := gb1115) (o := .cells #[.int .i64 a0_0, .int .i64 a0_1] 134 (0, 0)) (by (with_reducible repeat (first | refine kn_' ?_ _ | refine kd_' ?_ | refine ka_' ?_ _)); exact BK1115.out)) : gb1115 ≠ gb1117)); have n7_ := sk_' ((by rw [hg]; exact Nat.ne_of_gt (blk_lt (g := gb1115) (o := .cells #[.int .i64 a0_0, .int .i64 a0_1] 134 (0, 0)) (by (with_reducible repeat (first | refine kn_' ?_ _ | refine kd_' ?_ | refine ka_' ?_ _)); exact BK1115.out)) : gb1117 ≠ gb1115)); have n8_ := sk_' ((by rw [hg]; exact Nat.ne_of_lt (blk_lt (g := gb1116) (o := .cells #[.int .i64 a1_0, .int .i64 a1_1] 134 (0, 0)) (by (with_reducible repeat (first | refine kn_' ?_ _ | refine kd_' ?_ | refine ka_' ?_ _)); exact BK1116.out)) : gb1116 ≠ gb1117)); have n9_ := sk_' ((by rw [hg]; exact Nat.ne_of_gt (blk_lt (g := gb1116) (o := .cells #[.int .i64 a1_0, .int .i64 a1_1] 134 (0, 0)) (by (with_reducible repeat (first | refine kn_' ?_ _ | refine kd_' ?_ | refine ka_' ?_ _)); exact BK1116.out)) : gb1117 ≠ gb1116)); clear BK1115; clear BK1116; clear HB; have BK1115 := n0_; have BK1116 := n1_; have HB := n2_; have BK1117 := n3_; have GW1117 := n4_; have GE1117 := n5_; have NB1115_1117 := n6_; have NB1117_1115 := n7_; have NB1116_1117 := n8_; have NB1117_1116 := n9_; clear n0_ n1_ n2_ n3_ n4_ n5_ n6_ n7_ n8_ n9_; clear hb hbox hg; have hnb36 := NB1115_1116.out; have hnc36 := NB1116_1115.out; have hnb37 := NB1115_1117.out; have hnc37 := NB1117_1115.out; have hcz38_0 : w35.cell? ⟨gb1115, 0, none⟩ = some (.int .i64 a0_0) := (kc_' BK1115.out 0).trans rfl; have hcz38_1 : w35.cell? ⟨gb1115, 1, none⟩ = some (.int .i64 a0_1) := (kc_' BK1115.out 1).trans rfl; have hfz38_0 := kf_' BK1115.out 0; have hfz38_1 := kf_' BK1115.out 1) | ((with_reducible refine xj_' (f := 154) rfl ?_); refine goesL_ (some 7) rfl rfl Try.func154 (by kernel_rfl) rfl #[.agg #[.int .i64 a0_0, .int .i64 a0_1]] rfl (by (try simp only [xm_', xc_', xn_']); first | done | rfl | (simp only [xd_', xt_']; rfl)) ?_; (with_reducible refine (impl_IsRatio.calls k a0_0 a0_1 false _ A3.out).mono ?_); rintro e w39 ⟨rfl, hb⟩; refine ⟨_, rfl, ?_⟩; have n0_ := sk_' (blk_below (g := gb1115) (o := .cells #[.int .i64 a0_0, .int .i64 a0_1] 134 (0, 0)) (by (with_reducible repeat (first | refine kn_' ?_ _ | refine kd_' ?_ | refine ka_' ?_ _)); exact BK1115.out) hb); have n1_ := sk_' (blk_below (g := gb1116) (o := .cells #[.int .i64 a1_0, .int .i64 a1_1] 134 (0, 0)) (by (with_reducible repeat (first | refine kn_' ?_ _ | refine kd_' ?_ | refine ka_' ?_ _)); exact BK1116.out) hb); have n2_ := sk_' (blk_below (g := gb1117) (o := .cells #[.int .i64 0, .int .i64 0] 134 (0, 0)) (by (with_reducible repeat (first | refine kn_' ?_ _ | refine kd_' ?_ | refine ka_' ?_ _)); exact BK1117.out) hb); have n3_ := sk_' (pp_' (by repeat (first | (with_reducible first | exact HB.out | apply pa_' | apply pn_' | apply pd_' | refine pt_' ?_ GE1115.out | refine pt_' ?_ GE1116.out | refine pt_' ?_ GE1117.out) | exact HB.out)) hb); clear BK1115; clear BK1116; clear BK1117; clear HB; have BK1115 := n0_; have BK1116 := n1_; have BK1117 := n2_; have HB := n3_; clear n0_ n1_ n2_ n3_; (try clear hb); (try clear hb2); (try clear hk); (try clear hi); have hnb40 := NB1117_1116.out; have hnc40 := NB1116_1117.out; have hcz41_0 : w39.cell? ⟨gb1117, 0, none⟩ = some (.int .i64 0) := (kc_' BK1117.out 0).trans rfl; have hcz41_1 : w39.cell? ⟨gb1117, 1, none⟩ = some (.int .i64 0) := (kc_' BK1117.out 1).trans rfl; have hfz41_0 := kf_' BK1117.out 0; have hfz41_1 := kf_' BK1117.out 1))
 refine bodyPost_ret (results_ct rfl _ _ gb1117 134 #[.int .i64 0, .int .i64 0] (0, 0) _ rfl (by (with_reducible repeat (first | refine kn_' ?_ _ | refine kd_' ?_ | refine ka_' ?_ _)); refine blk_put (cs := #[.int .i64 0, .int .i64 0]) ?_ 1 _ rfl; (with_reducible repeat (first | refine kn_' ?_ _ | refine kd_' ?_ | refine ka_' ?_ _)); refine blk_put (cs := #[.int .i64 0, .int .i64 0]) ?_ 0 _ rfl; (with_reducible repeat (first | refine kn_' ?_ _ | refine kd_' ?_ | refine ka_' ?_ _)); exact BK1117.out) Try.underlying134 rfl (by kernel_rfl)) rfl ?_
 exact ⟨by first | rfl | (simp [errW_none, errW_some] <;> rfl) | (simp [*, errW_none, errW_some] <;> rfl), by repeat (first | (with_reducible first | exact HB.out | apply pa_' | apply pn_' | apply pd_' | refine pt_' ?_ GE1115.out | refine pt_' ?_ GE1116.out | refine pt_' ?_ GE1117.out) | exact HB.out)⟩
end Go.Proofs.Ytiophiipmgpaeaa.F
